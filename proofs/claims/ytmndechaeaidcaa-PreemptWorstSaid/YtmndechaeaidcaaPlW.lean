/- The plain law PreemptWorst. -/
import Derived.Test.YtmndechaeaidcaaPlC
import Derived.Test.YtmndechaeaidcaaPxx26
namespace Go.Proofs.Ytmndechaeaidcaa.Px
open Go.RowKit Go.Proofs.YtmndechaeaidcaaW.PrintWords Go.Proofs.YtmndechaeaidcaaW.PrintLast Go.Proofs.YtmndechaeaidcaaW.PrintMore
set_option linter.unusedVariables false
set_option linter.unusedSimpArgs false

theorem cw_mono_w {win win' m : Int} (h : win ≤ win') : ∀ {l : List S37}, Ok l → cw win m l ≤ cw win' m l
  | [], _ => Int.le_refl _
  | x :: l, ho => by
    have h1 := cw_mono_w (m := m) h ho.tail
    have h3 := ho x (by simp)
    simp only [cw]
    split <;> split <;> omega
theorem wm_mono_w {win win' : Int} (h : win ≤ win') {L : List S37} (ho : Ok L) : ∀ (l : List S37), wm win L l ≤ wm win' L l
  | [] => Int.le_refl _
  | x :: l => by
    have h1 := wm_mono_w h ho l
    have h2 := cw_mono_w (m := x.f0) h ho
    exact mx_le.mpr ⟨le_mx.mpr (.inl h2), le_mx.mpr (.inr h1)⟩
theorem wm_sum {win : Int} {L : List S37} (ho : Ok L) : ∀ (l : List S37), wm win L l ≤ sumC L
  | [] => (sumC_bd ho).1
  | x :: l => mx_le.mpr ⟨(cw_nonneg ho).2, wm_sum ho l⟩
def anyW (win a : Int) (L : List S37) : List S37 → Bool
  | [] => false
  | x :: l => decide (cw win x.f0 L = a) || anyW win a L l
theorem anyW_mem {win a : Int} {L : List S37} : ∀ {l : List S37} {x : S37}, x ∈ l → cw win x.f0 L = a → anyW win a L l = true
  | y :: l, x, h, e => by
    unfold anyW
    rcases List.mem_cons.mp h with rfl | h
    · rw [decide_eq_true e]; rfl
    · rw [anyW_mem h e, Bool.or_true]
theorem sum_drop (l : List S37) (i : Nat) (h : i < l.length) : sumC (l.drop i) = (rd_T37 l (i : Int)).f1 + sumC (l.drop (i + 1)) := by rw [rd_drop l i h]; rfl
/-- Behind the loop. -/
def endW (l : List S37) (win by_ m a : Int) (s : Int) (fnd : Bool) : Prop :=
  Ev (fun k => observatorylaw40_PreemptWorst.l0 k l win by_ m true a s fnd (l.length : Int)) true
theorem worst_l0 (l : List S37) (win by_ m a : Int) (hl : l.length ≤ 60) (hw : 1 ≤ win) (hw2 : win ≤ 38400) (ho : Ok l) (fin : endW l win by_ m a (sumC l) true) : ∀ (d i : Nat) (s : Int) (fnd : Bool), i + d = l.length → 0 ≤ s → s ≤ 1000 * i → s + sumC (l.drop i) = sumC l → (fnd || anyW win a l (l.drop i)) = true →
    Ev (fun k => observatorylaw40_PreemptWorst.l0 k l win by_ m true a s fnd (i : Int)) true
  | 0, i, s, fnd, h, h0, h1, hs, hf => by
    have e : i = l.length := by omega
    subst e
    rw [List.drop_of_length_le (Nat.le_refl _)] at hs hf
    have e2 : s = sumC l := by simpa [sumC] using hs
    have e3 : fnd = true := by simpa [anyW] using hf
    rw [e2, e3]
    exact fin
  | d + 1, i, s, fnd, h, h0, h1, hs, hf => by
    have hi : i < l.length := by omega
    have hx := ho.rd (i := (i : Int)) (by omega) (by omega)
    rw [sum_drop l i hi] at hs
    rw [rd_drop l i hi] at hf
    generalize hxx : rd_T37 l (i : Int) = x at hx hs hf
    have hcn := cw_nonneg (win := win) (m := x.f0) ho
    cases fnd
    · have ih := worst_l0 l win by_ m a hl hw hw2 ho fin d (i + 1) (s + x.f1) (decide (cw win x.f0 l = a)) (by omega) (by omega) (by omega) (by omega) (by simpa [anyW] using hf)
      obtain ⟨K1, h1'⟩ := cost_ev l win x.f0 (by omega) ho (wr (by omega) (by omega))
      obtain ⟨K2, h2'⟩ := ih
      refine ⟨K1 + K2 + 1, fun k hk => ?_⟩
      obtain ⟨n, rfl⟩ : ∃ n, k = n + 1 := ⟨k - 1, by omega⟩
      have e1 := h1' n (by omega)
      have e2 := h2' n (by omega)
      simp only at e1 e2
      simp only [observatorylaw40_PreemptWorst.l0, hxx]
      rw [if_pos (by omega), if_pos (by omega), if_neg (by simp), e1]
      simp only [Option.bind_some]
      rw [wr (x := s + x.f1) (by omega) (by omega), wr (x := (i : Int) + 1) (by omega) (by omega), show (cw win x.f0 l == a) = decide (cw win x.f0 l = a) from by by_cases c : cw win x.f0 l = a <;> simp [c]]
      exact e2
    · refine Ev.step (f := fun k => observatorylaw40_PreemptWorst.l0 k l win by_ m true a (s + x.f1) true ((i + 1 : Nat) : Int)) (fun k => ?_) (worst_l0 l win by_ m a hl hw hw2 ho fin d (i + 1) (s + x.f1) true (by omega) (by omega) (by omega) (by omega) (by simp))
      simp only [observatorylaw40_PreemptWorst.l0, hxx]
      rw [if_pos (by omega), if_pos (by omega), if_pos trivial, wr (x := s + x.f1) (by omega) (by omega), wr (x := (i : Int) + 1) (by omega) (by omega)]
      rfl
theorem srt_take {l : List S37} (h : Srt l) (n : Nat) : Srt (l.take n) := h.sub (List.take_sublist _ _)
theorem wm_take {win : Int} (l : List S37) (h : Srt l) (ho : Ok l) (n : Nat) : wm win (l.take n) (l.take n) ≤ wm win l l := by
  have hoT : Ok (l.take n) := ho.sub (List.take_sublist _ _)
  refine (wm_le_iff (wm_nonneg ho)).mpr (fun x hx => ?_)
  have h1 := (wm_le_iff (win := win) (L := l) (wm_nonneg ho) (l := l)).mp (Int.le_refl _) x (List.mem_of_mem_take hx)
  refine Int.le_trans ?_ h1
  have e : l = l.take n ++ l.drop n := (List.take_append_drop n l).symm
  conv => rhs; rw [e]
  exact cw_prefix (by rw [← e]; exact ho)
theorem worst_end (l : List S37) (win by_ m : Int) (hl : l.length ≤ 60) (hw : 1 ≤ win) (hw2 : win ≤ 38400) (hS : Srt l) (ho : Ok l) (b0 : 0 ≤ by_) (b1 : by_ ≤ 65535) (m0 : 0 ≤ m) (m1 : m ≤ 65535) : endW l win by_ m (wm win l l) (sumC l) true := by
  have hn := wm_nonneg (win := win) ho (l := l)
  have hsum := wm_sum (win := win) ho l
  have hcm := cw_le_wm (win := win) (m := m) hS ho
  obtain ⟨K1, h1⟩ := cost_ev l win m (by omega) ho (wr (by omega) (by omega))
  refine ⟨K1 + 2, fun k hk => ?_⟩
  obtain ⟨n, rfl⟩ : ∃ n, k = n + 2 := ⟨k - 2, by omega⟩
  have e1 := h1 (n + 1) (by omega)
  simp only at e1
  have tail : ∀ b : Bool, b = false → observatorylaw40_PreemptWorst.j3 (n + 1) l win true (wm win l l) b = some true := by
    intro b hb
    subst hb
    simp only [observatorylaw40_PreemptWorst.j3]
    rw [if_neg (by simp)]
    by_cases hz : (l.length : Int) = 0
    · rw [if_pos hz]
    · rw [if_neg hz, wr (x := (l.length : Int) - 1) (by omega) (by omega), if_pos (by omega), if_pos (by omega)]
      have et : ((l.length : Int) - 1).toNat = l.length - 1 := by omega
      rw [et]
      have hoT : Ok (l.take (l.length - 1)) := ho.sub (List.take_sublist _ _)
      have hST := srt_take hS (l.length - 1)
      have hv : VL (l.take (l.length - 1)) = true := VL_iff.mpr ⟨hST, hoT, by rw [List.length_take]; omega⟩
      have hlm : LM win 0 = true := decide_eq_true ⟨by omega, by omega, by omega, by omega⟩
      have hwt := wm_take (win := win) l hS ho (l.length - 1)
      have hlast : (rd_T37 l ((l.length : Int) - 1)).f1 ≤ wm win l l := by
        have hmem : rd_T37 l ((l.length : Int) - 1) ∈ l := by
          unfold rd_T37
          rw [List.getD_eq_getElem?_getD, List.getElem?_eq_getElem (by omega : ((l.length : Int) - 1).toNat < l.length)]
          exact List.getElem_mem _
        have h2 := (wm_le_iff (win := win) (L := l) (wm_nonneg ho) (l := l)).mp (Int.le_refl _) _ hmem
        refine Int.le_trans ?_ h2
        have key : ∀ (L : List S37) (x : S37), Ok L → x ∈ L → x.f1 ≤ cw win x.f0 L := by
          intro L
          induction L with
          | nil => intro x _ h; cases h
          | cons y L ih =>
            intro x hO hx
            have h3 := cw_nonneg (win := win) (m := x.f0) hO.tail
            have h4 := hO y (by simp)
            rcases List.mem_cons.mp hx with rfl | hx
            · simp only [cw]
              rw [if_pos (by omega)]
              omega
            · have := ih x hO.tail hx
              simp only [cw]
              split <;> omega
        exact key l _ ho hmem
      simp only [preempt_Worst.f, hv, hlm, Bool.and_self, if_true, Option.bind_some, worst_wm (show 0 < win by omega) hST hoT]
      rw [if_pos hwt, if_pos (by omega)]
      simp only [Option.some.injEq, decide_eq_true_eq]
      omega
  simp only [observatorylaw40_PreemptWorst.l0]
  rw [if_neg (by omega), wr (x := by_) (by omega) (by omega), wr (x := win + by_) (by omega) (by omega), wr (x := m) (by omega) (by omega), e1]
  have hv0 : VL l = true := VL_iff.mpr ⟨hS, ho, by omega⟩
  have hd : decide (wm win l l < cw win m l) = false := decide_eq_false (by omega)
  simp only [preempt_Worst.f, hv0, Bool.true_and, Option.bind_some]
  by_cases c : LM win 0 = true ∧ LM (win + by_) 0 = true
  · rw [if_pos c.2]
    have hmono := wm_mono_w (show win ≤ win + by_ by omega) ho l
    rw [worst_wm (show 0 < win + by_ by omega) hS ho]
    simp only [if_true]
    rw [if_neg (by omega), if_neg (by omega)]
    exact tail _ hd
  · by_cases c2 : LM (win + by_) 0 = true
    · exact absurd ⟨decide_eq_true ⟨by omega, by omega, by omega, by omega⟩, c2⟩ c
    · rw [if_neg c2]
      simp only [if_true]
      rw [if_neg (by omega), if_neg (by omega)]
      exact tail _ hd
theorem worst_law (l : List S37) (win by_ m : Int) (hw : -9223372036854775808 ≤ win ∧ win ≤ 9223372036854775807) (hb : 0 ≤ by_ ∧ by_ ≤ 65535) (hm : 0 ≤ m ∧ m ≤ 65535) : ∃ k, observatorylaw40_PreemptWorst.f k l win by_ m = some true := by
  by_cases c1 : (VL l && LM win 0) = true
  · have hv : VL l = true := by simp only [Bool.and_eq_true] at c1; exact c1.1
    have hlm : LM win 0 = true := by simp only [Bool.and_eq_true] at c1; exact c1.2
    obtain ⟨hS, hO, hlen⟩ := VL_iff.mp hv
    obtain ⟨w1, w2, _, _⟩ := LM_bd hlm
    by_cases hl : l.length ≤ 60
    · have hfin := worst_end l win by_ m hl w1 w2 hS hO hb.1 hb.2 hm.1 hm.2
      have hn := wm_nonneg (win := win) hO (l := l)
      have hany : ∀ fnd : Bool, (fnd = true ∨ l ≠ []) → Ev (fun k => observatorylaw40_PreemptWorst.l0 k l win by_ m true (wm win l l) 0 fnd 0) true := by
        intro fnd hf
        refine worst_l0 l win by_ m (wm win l l) hl w1 w2 hO hfin l.length 0 0 fnd (by omega) (by omega) (by omega) (by simp) ?_
        rcases hf with rfl | hf
        · rfl
        · obtain ⟨x, hx, e⟩ := wm_mem (win := win) hO hf
          rw [List.drop_zero, anyW_mem hx e.symm, Bool.or_true]
      obtain ⟨K, hK⟩ := hany (decide (l = [])) (by by_cases e : l = [] <;> simp [e])
      refine ⟨K + 2, ?_⟩
      have e2 : observatorylaw40_PreemptWorst.l0 K l win by_ m true (wm win l l) 0 (decide (l = [])) 0 = some true := hK K (Nat.le_refl _)
      simp only [observatorylaw40_PreemptWorst.f, observatorylaw40_head.f, Option.bind_some, preempt_Worst.f, if_pos c1, worst_wm (show 0 < win by omega) hS hO]
      rw [if_neg (by omega)]
      simp only [observatorylaw40_PreemptWorst.j0, observatorylaw40_PreemptWorst.j1]
      rw [if_neg (by simp)]
      by_cases hz : (l.length : Int) = 0
      · have hnil : l = [] := List.eq_nil_of_length_eq_zero (by omega)
        rw [if_pos hz]
        subst hnil
        exact e2
      · rw [if_neg hz]
        have hne : ¬ l = [] := fun e => by rw [e] at hz; simp at hz
        rw [decide_eq_false hne] at e2
        exact e2
    · refine ⟨2, ?_⟩
      simp only [observatorylaw40_PreemptWorst.f, observatorylaw40_head.f, Option.bind_some, preempt_Worst.f, if_pos c1]
      rw [if_pos (by omega)]
      simp only [observatorylaw40_PreemptWorst.j0]
      rfl
  · refine ⟨2, ?_⟩
    simp only [observatorylaw40_PreemptWorst.f, observatorylaw40_head.f, Option.bind_some, preempt_Worst.f, if_neg c1]
    split <;> rfl
end Go.Proofs.Ytmndechaeaidcaa.Px
