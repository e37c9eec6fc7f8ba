/- The plain law PreemptBounded. -/
import Derived.Test.YtmndechaeaidcaaPlC
import Derived.Test.YtmndechaeaidcaaPxx22
namespace Go.Proofs.Ytmndechaeaidcaa.Px
open Go.RowKit Go.Proofs.YtmndechaeaidcaaW.PrintWords Go.Proofs.YtmndechaeaidcaaW.PrintLast Go.Proofs.YtmndechaeaidcaaW.PrintMore
set_option linter.unusedVariables false
set_option linter.unusedSimpArgs false

theorem rdb_drop' (l : List Bool) (i : Nat) (h : i < l.length) : l[i]? = some (rdOf false l (i : Int)) := by
  rw [List.getElem?_eq_getElem h]
  simp [rdOf, List.getD, h]
theorem rdT_at (l : List S37) (i : Nat) (h : i < l.length) : l[i]? = some (rd_T37 l (i : Int)) := by
  rw [List.getElem?_eq_getElem h]
  simp [rd_T37, List.getD, h]
theorem bounded_l0 (l : List S37) (win b : Int) (hl : l.length ≤ 60) (hw : 1 ≤ win) (hw2 : win ≤ 38400) (hb : 0 ≤ b) (ho : Ok l) : ∀ (d i : Nat), i + d = l.length → Ev (fun k => observatorylaw40_PreemptBounded.l0 k l win b true (runR win b [] l) (i : Int)) true
  | 0, i, h => by
    refine Ev.step (f := fun _ => some true) (fun k => ?_) (Ev.now _)
    simp only [observatorylaw40_PreemptBounded.l0]
    rw [if_neg (by omega)]
  | d + 1, i, h => by
    have hi : i < l.length := by omega
    have hlen := runR_len win b l []
    have ih := bounded_l0 l win b hl hw hw2 hb ho d (i + 1) (by omega)
    have hbi := rdb_drop' (runR win b [] l) i (by omega)
    have hxi := rdT_at l i hi
    have hox := ho.rd (i := (i : Int)) (by omega) (by omega)
    generalize hx : rd_T37 l (i : Int) = x at hxi hox
    generalize hq : rdOf false (runR win b [] l) (i : Int) = q at hbi
    cases q
    · have hno := run_no l [] i x hxi hbi
      rw [List.nil_append] at hno
      have hoA : Ok (accV (l.take i) (runR win b [] l)) := (ho.sub (List.take_sublist _ _)).sub (accV_sub _ _)
      have hcb := cw_nonneg (win := win) (m := x.f0) hoA
      have hsb := sumC_bd hoA
      have hlen2 : (accV (l.take i) (runR win b [] l)).length ≤ 60 := by
        have h1 := (accV_sub (l.take i) (runR win b [] l)).length_le
        rw [List.length_take] at h1
        omega
      obtain ⟨K1, h1⟩ := acc_ev (l.take i) (runR win b [] l) (by rw [List.length_take]; omega) (by omega)
      obtain ⟨K2, h2⟩ := cost_ev (accV (l.take i) (runR win b [] l)) win x.f0 (by omega) hoA (wr (by omega) (by omega))
      obtain ⟨K3, h3⟩ := ih
      refine ⟨K1 + K2 + K3 + 1, fun k hk => ?_⟩
      obtain ⟨n, rfl⟩ : ∃ n, k = n + 1 := ⟨k - 1, by omega⟩
      have e1 := h1 n (by omega)
      have e2 := h2 n (by omega)
      have e3 := h3 n (by omega)
      simp only at e1 e2 e3
      simp only [observatorylaw40_PreemptBounded.l0, hx, hq]
      rw [if_pos (by omega), if_pos (by omega), if_pos (by omega), if_neg (by simp), if_pos (by omega), Int.toNat_natCast, e1]
      simp only [Option.bind_some]
      rw [e2]
      simp only [Option.bind_some]
      rw [wr (x := cw win x.f0 (accV (l.take i) (runR win b [] l)) + x.f1) (by omega) (by omega), if_neg (by omega), wr (x := (i : Int) + 1) (by omega) (by omega)]
      exact e3
    · refine Ev.step (f := fun k => observatorylaw40_PreemptBounded.l0 k l win b true (runR win b [] l) ((i + 1 : Nat) : Int)) (fun k => ?_) ih
      simp only [observatorylaw40_PreemptBounded.l0, hx, hq]
      rw [if_pos (by omega), if_pos (by omega), if_pos (by omega), if_pos trivial, wr (x := (i : Int) + 1) (by omega) (by omega)]
      rfl
theorem bounded_law (l : List S37) (win b m : Int) (m0 : 0 ≤ m) (m1 : m ≤ 65535) : ∃ k, observatorylaw40_PreemptBounded.f k l win b m = some true := by
  by_cases hl : l.length ≤ 60
  · by_cases c1 : (VL l && LM win b) = true
    · have hv : VL l = true := by simp only [Bool.and_eq_true] at c1; exact c1.1
      have hm : LM win b = true := by simp only [Bool.and_eq_true] at c1; exact c1.2
      obtain ⟨hS, hO, _⟩ := VL_iff.mp hv
      obtain ⟨w1, w2, b1, b2⟩ := LM_bd hm
      have er := run_eq0 (win := win) (budget := b) (by omega) hS hO
      obtain ⟨tk, htk⟩ : ∃ tk, tk = accV l (runR win b [] l) := ⟨_, rfl⟩
      have hsub := accV_sub l (runR win b [] l)
      rw [← htk] at hsub
      have htS := hS.sub hsub
      have htO := hO.sub hsub
      have htl := hsub.length_le
      have htv : VL tk = true := VL_iff.mpr ⟨htS, htO, by omega⟩
      have hlm0 : LM win 0 = true := decide_eq_true ⟨by omega, by omega, by omega, by omega⟩
      have hwm : worstV win [] 0 tk ≤ b := by
        rw [worst_wm (by omega) htS htO]
        have h1 := wm_le (win := win) tk [] (by simpa using htS) (by simpa using htO)
        have h2 := pm_run (win := win) (b := b) (by omega) b1 l []
        rw [← htk] at h2
        simp only [List.nil_append] at h1
        omega
      have hcm : cw win m tk ≤ b := by
        have h1 := cw_le_wm (win := win) (m := m) htS htO
        rw [← worst_wm (by omega) htS htO] at h1
        omega
      obtain ⟨K1, h1⟩ := acc_ev l (runR win b [] l) (by omega) (by rw [runR_len]; omega)
      obtain ⟨K2, h2⟩ := cost_ev tk win m (by omega) htO (wr (by omega) (by omega))
      obtain ⟨K3, h3⟩ := bounded_l0 l win b hl w1 w2 b1 hO l.length 0 (by omega)
      refine ⟨K1 + K2 + K3 + 1, ?_⟩
      have e1 := h1 (K1 + K2 + K3 + 1) (by omega)
      have e2 := h2 (K1 + K2 + K3 + 1) (by omega)
      have e3 : observatorylaw40_PreemptBounded.l0 (K1 + K2 + K3) l win b true (runR win b [] l) 0 = some true := h3 (K1 + K2 + K3) (by omega)
      simp only at e1 e2
      rw [← htk] at e1
      simp only [observatorylaw40_PreemptBounded.f, observatorylaw40_head.f, Option.bind_some, preempt_Run.f, if_pos c1, er, runR_len, e1, preempt_Worst.f, htv, hlm0, Bool.and_self, if_true, wr (x := m) (by omega) (by omega), e2, observatorylaw40_PreemptBounded.j0, e3]
      rw [if_neg (by omega), if_neg (by omega)]
      simp [show ¬ cw win m tk > b by omega]
    · refine ⟨0, ?_⟩
      simp only [observatorylaw40_PreemptBounded.f, observatorylaw40_head.f, Option.bind_some, preempt_Run.f, if_neg c1]
      rw [if_neg (by omega)]
      simp
  · refine ⟨0, ?_⟩
    simp only [observatorylaw40_PreemptBounded.f, observatorylaw40_head.f, Option.bind_some]
    rw [if_pos (by omega)]
end Go.Proofs.Ytmndechaeaidcaa.Px
