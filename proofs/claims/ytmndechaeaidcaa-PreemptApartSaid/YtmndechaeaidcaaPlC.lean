/- What the laws' own functions compute, plainly: cost, accepted. -/
import Derived.Test.YtmndechaeaidcaaPlA
import Derived.Test.YtmndechaeaidcaaPxx20
import Derived.Test.YtmndechaeaidcaaPxx21
namespace Go.Proofs.Ytmndechaeaidcaa.Px
open Go.RowKit Go.Proofs.YtmndechaeaidcaaW.PrintWords Go.Proofs.YtmndechaeaidcaaW.PrintLast Go.Proofs.YtmndechaeaidcaaW.PrintMore
set_option linter.unusedVariables false
set_option linter.unusedSimpArgs false

theorem cost_l0 (l : List S37) (win m : Int) (hl : l.length ≤ 1000) (ho : Ok l) (hw : wrap64 (m - win) = m - win) : ∀ (d i : Nat) (acc : Int), i + d = l.length → 0 ≤ acc → acc ≤ 1000 * i → Ev (fun k => observatorylaw40_cost.l0 k l win m acc (i : Int)) (acc + cw win m (l.drop i))
  | 0, i, acc, h, h0, h1 => by
    refine Ev.step (f := fun _ => some (acc + cw win m (l.drop i))) (fun k => ?_) (Ev.now _)
    simp only [observatorylaw40_cost.l0]
    rw [if_neg (by omega), List.drop_of_length_le (by omega)]
    simp only [cw]
    congr 1
    omega
  | d + 1, i, acc, h, h0, h1 => by
    have hi : i < l.length := by omega
    have hx := ho.rd (i := (i : Int)) (by omega) (by omega)
    rw [rd_drop l i hi]
    generalize hxx : rd_T37 l (i : Int) = x at hx ⊢
    by_cases c : m - win < x.f0 ∧ x.f0 ≤ m
    · have ih := cost_l0 l win m hl ho hw d (i + 1) (acc + x.f1) (by omega) (by omega) (by omega)
      refine Ev.step (f := fun k => observatorylaw40_cost.l0 k l win m (acc + x.f1) ((i + 1 : Nat) : Int)) (fun k => ?_) (by rw [show acc + cw win m (x :: l.drop (i + 1)) = acc + x.f1 + cw win m (l.drop (i + 1)) from by simp only [cw]; rw [if_pos c]; omega]; exact ih)
      simp only [observatorylaw40_cost.l0, hxx, hw]
      rw [if_pos (by omega), if_pos (by omega), if_pos c.1, if_pos c.2, wr (x := acc + x.f1) (by omega) (by omega), wr (x := (i : Int) + 1) (by omega) (by omega)]
      rfl
    · have ih := cost_l0 l win m hl ho hw d (i + 1) acc (by omega) (by omega) (by omega)
      refine Ev.step (f := fun k => observatorylaw40_cost.l0 k l win m acc ((i + 1 : Nat) : Int)) (fun k => ?_) (by rw [show acc + cw win m (x :: l.drop (i + 1)) = acc + cw win m (l.drop (i + 1)) from by simp only [cw]; rw [if_neg c]; omega]; exact ih)
      simp only [observatorylaw40_cost.l0, hxx, hw]
      rw [if_pos (by omega), if_pos (by omega), wr (x := (i : Int) + 1) (by omega) (by omega)]
      by_cases c1 : m - win < x.f0
      · rw [if_pos c1, if_neg (fun h => c ⟨c1, h⟩)]
        rfl
      · rw [if_neg c1]
        rfl
theorem cost_ev (l : List S37) (win m : Int) (hl : l.length ≤ 1000) (ho : Ok l) (hw : wrap64 (m - win) = m - win) : Ev (fun k => observatorylaw40_cost.f k l win m) (cw win m l) := by
  have h := cost_l0 l win m hl ho hw l.length 0 0 (by omega) (by omega) (by omega)
  simpa [observatorylaw40_cost.f] using h
/-- The interruptions that were accepted. -/
def accV : List S37 → List Bool → List S37
  | x :: l, b :: bs => if b = true then x :: accV l bs else accV l bs
  | _, _ => []
theorem accV_sub : ∀ (l : List S37) (bs : List Bool), (accV l bs).Sublist l
  | [], _ => List.Sublist.refl _
  | x :: l, [] => by simp [accV]
  | x :: l, b :: bs => by
    unfold accV
    split
    · exact (accV_sub l bs).cons_cons x
    · exact (accV_sub l bs).cons x
theorem acc_l0 (l : List S37) (bs : List Bool) (hl : l.length ≤ 1000) (hb : bs.length ≤ 1000) : ∀ (d i : Nat) (out : List S37), i + d = l.length → out.length ≤ i → Ev (fun k => observatorylaw40_accepted.l0 k l bs out (i : Int)) (out ++ accV (l.drop i) (bs.drop i))
  | 0, i, out, h, h1 => by
    refine ⟨2, fun k hk => ?_⟩
    obtain ⟨n, rfl⟩ : ∃ n, k = n + 2 := ⟨k - 2, by omega⟩
    simp only [observatorylaw40_accepted.l0, observatorylaw40_accepted.j1]
    rw [if_neg (by omega), List.drop_of_length_le (by omega)]
    simp [accV]
  | d + 1, i, out, h, h1 => by
    have hi : i < l.length := by omega
    by_cases hib : i < bs.length
    · have hd : bs.drop i = rdOf false bs (i : Int) :: bs.drop (i + 1) := by
        rw [List.drop_eq_getElem_cons hib]
        congr 1
        simp [rdOf, List.getD, hib]
      rw [rd_drop l i hi, hd]
      generalize hxx : rd_T37 l (i : Int) = x
      generalize hbb : rdOf false bs (i : Int) = b
      cases b
      · have ih := acc_l0 l bs hl hb d (i + 1) out (by omega) (by omega)
        obtain ⟨K, ih⟩ := ih
        refine ⟨K + 2, fun k hk => ?_⟩
        obtain ⟨n, rfl⟩ : ∃ n, k = n + 2 := ⟨k - 2, by omega⟩
        have e := ih n (by omega)
        simp only at e
        simp only [observatorylaw40_accepted.l0, observatorylaw40_accepted.j1, hbb, hxx]
        rw [if_pos (by omega), if_pos (decide_eq_true (by omega)), if_pos (by omega), if_pos (by omega), if_neg (by simp), wr (x := (i : Int) + 1) (by omega) (by omega)]
        simpa [accV] using e
      · have ih := acc_l0 l bs hl hb d (i + 1) (out ++ [x]) (by omega) (by simp; omega)
        obtain ⟨K, ih⟩ := ih
        refine ⟨K + 2, fun k hk => ?_⟩
        obtain ⟨n, rfl⟩ : ∃ n, k = n + 2 := ⟨k - 2, by omega⟩
        have e := ih n (by omega)
        simp only at e
        simp only [observatorylaw40_accepted.l0, observatorylaw40_accepted.j1, hbb, hxx]
        rw [if_pos (by omega), if_pos (decide_eq_true (by omega)), if_pos (by omega), if_pos (by omega), if_pos trivial, if_pos (by omega), if_pos (by omega), wr (x := (i : Int) + 1) (by omega) (by omega)]
        simpa [accV] using e
    · refine ⟨2, fun k hk => ?_⟩
      obtain ⟨n, rfl⟩ : ∃ n, k = n + 2 := ⟨k - 2, by omega⟩
      simp only [observatorylaw40_accepted.l0, observatorylaw40_accepted.j1]
      rw [if_pos (by omega), if_neg (by simp; omega), List.drop_of_length_le (show bs.length ≤ i by omega)]
      cases l.drop i <;> simp [accV]
theorem acc_ev (l : List S37) (bs : List Bool) (hl : l.length ≤ 1000) (hb : bs.length ≤ 1000) : Ev (fun k => observatorylaw40_accepted.f k l bs) (accV l bs) := by
  have h := acc_l0 l bs hl hb l.length 0 [] (by omega) (by simp)
  simpa [observatorylaw40_accepted.f] using h
theorem Srt.sub {a b : List S37} (h : Srt b) (s : a.Sublist b) : Srt a := List.Pairwise.sublist s h
theorem Ok.sub {a b : List S37} (h : Ok b) (s : a.Sublist b) : Ok a := fun x hx => h x (s.subset hx)
theorem cw_one {win : Int} (hw : 0 < win) (p : List S37) (x : S37) : cw win x.f0 (p ++ [x]) = cw win x.f0 p + x.f1 := by
  rw [cw_append]
  simp only [cw]
  rw [if_pos (by omega)]
  omega
/-- What was accepted keeps within the budget. -/
theorem pm_run {win b : Int} (hw : 0 < win) (hb : 0 ≤ b) : ∀ (l tk : List S37), pm win tk (accV l (runR win b tk l)) ≤ b
  | [], tk => by simp [accV, pm, hb]
  | x :: l, tk => by
    unfold runR
    by_cases c : cw win x.f0 tk + x.f1 > b
    · rw [if_pos c]
      show pm win tk (accV l (runR win b tk l)) ≤ b
      exact pm_run hw hb l tk
    · rw [if_neg c]
      show mx (cw win x.f0 (tk ++ [x])) (pm win (tk ++ [x]) (accV l (runR win b (tk ++ [x]) l))) ≤ b
      exact mx_le.mpr ⟨by rw [cw_one hw]; omega, pm_run hw hb l (tk ++ [x])⟩
/-- What was refused would have exceeded it. -/
theorem run_no {win b : Int} : ∀ (l tk : List S37) (i : Nat) (x : S37), l[i]? = some x → (runR win b tk l)[i]? = some false → cw win x.f0 (tk ++ accV (l.take i) (runR win b tk l)) + x.f1 > b
  | [], _, i, x, h, _ => by simp at h
  | y :: l, tk, 0, x, h, h2 => by
    obtain rfl : y = x := by simpa using h
    unfold runR at h2
    by_cases c : cw win y.f0 tk + y.f1 > b
    · simpa [accV] using c
    · rw [if_neg c] at h2
      simp at h2
  | y :: l, tk, i + 1, x, h, h2 => by
    have h' : l[i]? = some x := by simpa using h
    by_cases c : cw win y.f0 tk + y.f1 > b
    · have e : runR win b tk (y :: l) = false :: runR win b tk l := by rw [runR, if_pos c]
      rw [e] at h2 ⊢
      have := run_no l tk i x h' (by simpa using h2)
      simpa [accV] using this
    · have e : runR win b tk (y :: l) = true :: runR win b (tk ++ [y]) l := by rw [runR, if_neg c]
      rw [e] at h2 ⊢
      have := run_no l (tk ++ [y]) i x h' (by simpa using h2)
      simpa [accV] using this
end Go.Proofs.Ytmndechaeaidcaa.Px
