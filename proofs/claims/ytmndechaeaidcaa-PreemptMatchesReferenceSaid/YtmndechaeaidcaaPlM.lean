/- The plain law PreemptMatchesReference. -/
import Derived.Test.YtmndechaeaidcaaPlA
import Derived.Test.YtmndechaeaidcaaPxx19
namespace Go.Proofs.Ytmndechaeaidcaa.Px
open Go.RowKit Go.Proofs.YtmndechaeaidcaaW.PrintWords Go.Proofs.YtmndechaeaidcaaW.PrintLast Go.Proofs.YtmndechaeaidcaaW.PrintMore
set_option linter.unusedVariables false
set_option linter.unusedSimpArgs false

theorem bools_l0' (a : List Bool) (hl : a.length ≤ 140737488351232) : ∀ (d i : Nat), i + d = a.length → Ev (fun k => observatoryref40_Bools.l0 k a a (i : Int)) true
  | 0, i, h => by
    refine Ev.step (f := fun _ => some true) (fun k => ?_) (Ev.now _)
    simp only [observatoryref40_Bools.l0]
    rw [if_neg (by omega)]
  | d + 1, i, h => by
    refine Ev.step (f := fun k => observatoryref40_Bools.l0 k a a ((i + 1 : Nat) : Int)) (fun k => ?_) (bools_l0' a hl d (i + 1) (by omega))
    simp only [observatoryref40_Bools.l0]
    rw [if_pos (by omega), if_pos (by omega), if_pos (by omega), if_neg (by simp), wr (x := (i : Int) + 1) (by omega) (by omega)]
    rfl
theorem bools_ev' (a : List Bool) (hl : a.length ≤ 140737488351232) : Ev (fun k => observatoryref40_Bools.f k a a) true := by
  have h := bools_l0' a hl a.length 0 (by omega)
  simpa [observatoryref40_Bools.f] using h
theorem moment_f (a : Int) : observatoryref40_moment.f a = some (decide (0 ≤ a ∧ a ≤ 38399)) := by
  unfold observatoryref40_moment.f
  by_cases h : 0 ≤ a <;> simp [h]
theorem window_f (a : Int) : observatoryref40_Window.f a = some (decide (1 ≤ a ∧ a ≤ 38400)) := by
  unfold observatoryref40_Window.f
  by_cases h : 1 ≤ a <;> simp [h]
theorem budget_f (a : Int) : observatoryref40_Budget.f a = some (decide (0 ≤ a ∧ a ≤ 1000000)) := by
  unfold observatoryref40_Budget.f
  by_cases h : 0 ≤ a <;> simp [h]
theorem LM_eq (a b : Int) : LM a b = (decide (1 ≤ a ∧ a ≤ 38400) && decide (0 ≤ b ∧ b ≤ 1000000)) := by
  unfold LM
  rw [Bool.eq_iff_iff]
  simp only [Bool.and_eq_true, decide_eq_true_eq]
  omega
/-- The moment before element i. -/
def prv (l : List S37) (i : Nat) : Int := if i = 0 then 0 else (rd_T37 l ((i : Int) - 1)).f0
theorem rvalid_l0 (l : List S37) (hl : l.length ≤ 9223372036854775807) : ∀ (d i : Nat), i + d = l.length → Ev (fun k => observatoryref40_Valid.l0 k l (i : Int)) (srt (prv l i) (l.drop i) && decide (l.length ≤ 200))
  | 0, i, h => by
    refine Ev.step (f := fun _ => some (srt (prv l i) (l.drop i) && decide (l.length ≤ 200))) (fun k => ?_) (Ev.now _)
    simp only [observatoryref40_Valid.l0]
    rw [if_neg (by omega), List.drop_of_length_le (by omega)]
    simp only [srt, Bool.true_and]
    congr 1
    exact decide_eq_decide.mpr (by omega)
  | d + 1, i, h => by
    have hi : i < l.length := by omega
    have ih := rvalid_l0 l hl d (i + 1) (by omega)
    have hp : prv l (i + 1) = (rd_T37 l (i : Int)).f0 := by
      unfold prv
      rw [if_neg (by omega), show (((i + 1 : Nat) : Int) - 1) = (i : Int) by omega]
    rw [rd_drop l i hi]
    simp only [srt]
    rw [hp] at ih
    generalize hx : rd_T37 l (i : Int) = x at ih ⊢
    by_cases ok : okI (prv l i) x = true
    · rw [ok, Bool.true_and]
      refine Ev.step (f := fun k => observatoryref40_Valid.l0 k l ((i + 1 : Nat) : Int)) (fun k => ?_) ih
      have o := of_decide_eq_true ok
      simp only [observatoryref40_Valid.l0, moment_f, Option.bind_some, hx]
      rw [if_pos (by omega), if_pos (by omega), if_pos (decide_eq_true (by omega)), if_neg (by omega), if_neg (by omega), wr (x := (i : Int) + 1) (by omega) (by omega)]
      by_cases c : (i : Int) > 0
      · have hpi : prv l i = (rd_T37 l ((i : Int) - 1)).f0 := if_neg (by omega)
        rw [if_pos c, wr (x := (i : Int) - 1) (by omega) (by omega), if_pos (by omega), if_pos (by omega), ← hpi, if_neg (by omega)]
        rfl
      · rw [if_neg c]
        rfl
    · have o : ¬ (0 ≤ x.f0 ∧ x.f0 ≤ 38399 ∧ 0 ≤ x.f1 ∧ x.f1 ≤ 1000 ∧ prv l i ≤ x.f0) := fun h => ok (decide_eq_true h)
      rw [show okI (prv l i) x = false by simpa using ok, Bool.false_and, Bool.false_and]
      refine Ev.step (f := fun _ => some false) (fun k => ?_) (Ev.now _)
      simp only [observatoryref40_Valid.l0, moment_f, Option.bind_some, hx]
      rw [if_pos (by omega), if_pos (by omega)]
      by_cases c1 : 0 ≤ x.f0 ∧ x.f0 ≤ 38399
      · rw [if_pos (decide_eq_true c1)]
        by_cases c2 : x.f1 < 0
        · rw [if_pos c2]
        · rw [if_neg c2]
          by_cases c3 : x.f1 > 1000
          · rw [if_pos c3]
          · rw [if_neg c3]
            by_cases c : (i : Int) > 0
            · have hpi : prv l i = (rd_T37 l ((i : Int) - 1)).f0 := if_neg (by omega)
              rw [if_pos c, wr (x := (i : Int) - 1) (by omega) (by omega), if_pos (by omega), if_pos (by omega), ← hpi, if_pos (by omega)]
            · have hpi : prv l i = 0 := if_pos (by omega)
              omega
      · rw [if_neg (by simpa using c1)]
theorem rvalid_ev (l : List S37) (hl : l.length ≤ 9223372036854775807) : Ev (fun k => observatoryref40_Valid.f k l) (VL l) := rvalid_l0 l hl l.length 0 (by omega)
theorem rcost_l0 (l : List S37) (win m : Int) (hl : l.length ≤ 1000) (ho : Ok l) (hw : wrap64 (m - win) = m - win) : ∀ (d i : Nat) (acc : Int), i + d = l.length → 0 ≤ acc → acc ≤ 1000 * i → Ev (fun k => observatoryref40_Cost.l0 k l win m acc (i : Int)) (acc + cw win m (l.drop i))
  | 0, i, acc, h, h0, h1 => by
    refine Ev.step (f := fun _ => some (acc + cw win m (l.drop i))) (fun k => ?_) (Ev.now _)
    simp only [observatoryref40_Cost.l0]
    rw [if_neg (by omega), List.drop_of_length_le (by omega)]
    simp only [cw]
    congr 1
    omega
  | d + 1, i, acc, h, h0, h1 => by
    have hi : i < l.length := by omega
    have hx := ho.rd (i := (i : Int)) (by omega) (by omega)
    rw [rd_drop l i hi]
    generalize hxx : rd_T37 l (i : Int) = x at hx ⊢
    by_cases c : m - win < x.f0 ∧ x.f0 ≤ m
    · have ih := rcost_l0 l win m hl ho hw d (i + 1) (acc + x.f1) (by omega) (by omega) (by omega)
      refine Ev.step (f := fun k => observatoryref40_Cost.l0 k l win m (acc + x.f1) ((i + 1 : Nat) : Int)) (fun k => ?_) (by rw [show acc + cw win m (x :: l.drop (i + 1)) = acc + x.f1 + cw win m (l.drop (i + 1)) from by simp only [cw]; rw [if_pos c]; omega]; exact ih)
      simp only [observatoryref40_Cost.l0, hxx, hw]
      rw [if_pos (by omega), if_pos (by omega), if_pos (show x.f0 > m - win from c.1), if_pos c.2, wr (x := acc + x.f1) (by omega) (by omega), wr (x := (i : Int) + 1) (by omega) (by omega)]
      rfl
    · have ih := rcost_l0 l win m hl ho hw d (i + 1) acc (by omega) (by omega) (by omega)
      refine Ev.step (f := fun k => observatoryref40_Cost.l0 k l win m acc ((i + 1 : Nat) : Int)) (fun k => ?_) (by rw [show acc + cw win m (x :: l.drop (i + 1)) = acc + cw win m (l.drop (i + 1)) from by simp only [cw]; rw [if_neg c]; omega]; exact ih)
      simp only [observatoryref40_Cost.l0, hxx, hw]
      rw [if_pos (by omega), if_pos (by omega), wr (x := (i : Int) + 1) (by omega) (by omega)]
      by_cases c1 : x.f0 > m - win
      · rw [if_pos c1, if_neg (fun h => c ⟨c1, h⟩)]
        rfl
      · rw [if_neg c1]
        rfl
theorem rcost_ev (l : List S37) (win m : Int) (hl : l.length ≤ 1000) (ho : Ok l) (hw : wrap64 (m - win) = m - win) : Ev (fun k => observatoryref40_Cost.f k l win m) (cw win m l) := by
  have h := rcost_l0 l win m hl ho hw l.length 0 0 (by omega) (by omega) (by omega)
  simpa [observatoryref40_Cost.f] using h
def AllowB (l : List S37) (win b a c : Int) : Bool := VL l && (decide (l.length < 200) && (LM win b && (decide (0 ≤ a ∧ a ≤ 38399) && decide (0 ≤ c ∧ c ≤ 1000))))
def AllowV (l : List S37) (win b a c : Int) : Int :=
  if AllowB l win b a c = true then (if 0 < l.length ∧ a < (rd_T37 l ((l.length : Int) - 1)).f0 then 13 else if sumC (keep (a - win) l) + c > b then 23 else 0) else 1
theorem lastest {l : List S37} (h : Srt l) {t : Int} (ht : ¬ (0 < l.length ∧ t < (rd_T37 l ((l.length : Int) - 1)).f0)) : ∀ y ∈ l, y.f0 ≤ t := by
  intro y hy
  have hp : 0 < l.length := List.length_pos_of_mem hy
  have e : rd_T37 l ((l.length : Int) - 1) = l[l.length - 1]'(by omega) := by
    unfold rd_T37
    rw [List.getD_eq_getElem?_getD, show ((l.length : Int) - 1).toNat = l.length - 1 by omega, List.getElem?_eq_getElem (by omega)]
    rfl
  have h1 : (l[l.length - 1]'(by omega)).f0 ≤ t := by
    rw [e] at ht
    omega
  obtain ⟨i, hi, rfl⟩ := List.mem_iff_getElem.mp hy
  by_cases c : i = l.length - 1
  · subst c; exact h1
  · exact Int.le_trans ((List.pairwise_iff_getElem.mp h) i (l.length - 1) hi (by omega) (by omega)) h1
theorem rallow_ev (l : List S37) (win b a c : Int) (hl : l.length ≤ 1000) : Ev (fun k => observatoryref40_Allow.f k l win b a c) (AllowV l win b a c) := by
  obtain ⟨K1, h1⟩ := rvalid_ev l (by omega)
  by_cases ok : AllowB l win b a c = true
  · have ok' := ok
    unfold AllowB at ok'
    simp only [Bool.and_eq_true, decide_eq_true_eq] at ok'
    obtain ⟨v, hn, hlm, ha, hc⟩ := ok'
    obtain ⟨hS, hO, _⟩ := VL_iff.mp v
    obtain ⟨w1, w2, b1, b2⟩ := LM_bd hlm
    obtain ⟨K2, h2⟩ := rcost_ev l win a hl hO (wr (by omega) (by omega))
    have hcn := cw_nonneg (win := win) (m := a) hO
    have hsb := sumC_bd hO
    refine ⟨K1 + K2 + 2, fun k hk => ?_⟩
    obtain ⟨n, rfl⟩ : ∃ n, k = n + 2 := ⟨k - 2, by omega⟩
    have e1 := h1 (n + 2) (by omega)
    have e2 := h2 n (by omega)
    simp only at e1 e2
    have ej : observatoryref40_Allow.j0 (n + 2) l win b a c false = some (AllowV l win b a c) := by
      unfold AllowV
      rw [if_pos ok]
      simp only [observatoryref40_Allow.j0, observatoryref40_Allow.j1, e2, Option.bind_some]
      rw [if_neg (by simp)]
      by_cases hz : (l.length : Int) > 0
      · rw [if_pos hz, wr (x := (l.length : Int) - 1) (by omega) (by omega), if_pos (by omega), if_pos (by omega)]
        by_cases q : a < (rd_T37 l ((l.length : Int) - 1)).f0
        · rw [if_pos (decide_eq_true q), if_pos ⟨by omega, q⟩]
        · have hno : ¬ (0 < l.length ∧ a < (rd_T37 l ((l.length : Int) - 1)).f0) := fun h => q h.2
          rw [if_neg (by simpa using q), if_neg hno, keep_cw hS (lastest hS hno), wr (x := cw win a l + c) (by omega) (by omega)]
          split <;> rfl
      · have hno : ¬ (0 < l.length ∧ a < (rd_T37 l ((l.length : Int) - 1)).f0) := fun h => by omega
        rw [if_neg hz, if_neg (by simp), if_neg hno, keep_cw hS (lastest hS hno), wr (x := cw win a l + c) (by omega) (by omega)]
        split <;> rfl
    simp only [observatoryref40_Allow.f, e1, Option.bind_some, window_f, budget_f, moment_f]
    rw [if_pos v, if_neg (by omega), if_pos (decide_eq_true (by omega)), if_pos (decide_eq_true (by omega)), if_pos (decide_eq_true ha), if_neg (by omega), show decide (c > 1000) = false from decide_eq_false (by omega)]
    exact ej
  · have eV : AllowV l win b a c = 1 := if_neg ok
    rw [eV]
    refine ⟨K1 + 1, fun k hk => ?_⟩
    obtain ⟨n, rfl⟩ : ∃ n, k = n + 1 := ⟨k - 1, by omega⟩
    have e1 := h1 (n + 1) (by omega)
    simp only at e1
    have et : observatoryref40_Allow.j0 (n + 1) l win b a c true = some 1 := by simp only [observatoryref40_Allow.j0, if_true]
    simp only [observatoryref40_Allow.f, e1, Option.bind_some, window_f, budget_f, moment_f, et]
    have no : ¬ (VL l = true ∧ l.length < 200 ∧ LM win b = true ∧ (0 ≤ a ∧ a ≤ 38399) ∧ (0 ≤ c ∧ c ≤ 1000)) := by
      intro h
      apply ok
      unfold AllowB
      simp only [Bool.and_eq_true, decide_eq_true_eq]
      exact h
    by_cases v : VL l = true
    · rw [if_pos v]
      by_cases hn : (l.length : Int) ≥ 200
      · rw [if_pos hn]
      · rw [if_neg hn]
        by_cases c1 : 1 ≤ win ∧ win ≤ 38400
        · rw [if_pos (decide_eq_true c1)]
          by_cases c2 : 0 ≤ b ∧ b ≤ 1000000
          · rw [if_pos (decide_eq_true c2)]
            by_cases c3 : 0 ≤ a ∧ a ≤ 38399
            · rw [if_pos (decide_eq_true c3)]
              by_cases c4 : c < 0
              · rw [if_pos c4]
              · rw [if_neg c4]
                have c5 : c > 1000 := by
                  by_cases c5 : c > 1000
                  · exact c5
                  · exact absurd ⟨v, by omega, decide_eq_true ⟨by omega, by omega, by omega, by omega⟩, c3, by omega, by omega⟩ no
                rw [decide_eq_true c5]
                exact et
            · rw [if_neg (by simpa using c3)]
          · rw [if_neg (by simpa using c2)]
        · rw [if_neg (by simpa using c1)]
    · rw [if_neg v]
theorem rrun_l0 (l : List S37) (win b : Int) (hl : l.length ≤ 200) (hlm : LM win b = true) : ∀ (d i : Nat) (out : List Bool) (tk : List S37), i + d = l.length → out.length ≤ i → tk.length ≤ i → Srt (tk ++ l.drop i) → Ok (tk ++ l.drop i) →
    Ev (fun k => observatoryref40_Run.l0 k win b l out tk (i : Int)) (out ++ runR win b tk (l.drop i), 0)
  | 0, i, out, tk, h, h1, h2, hS, hO => by
    refine Ev.step (f := fun _ => some (out ++ runR win b tk (l.drop i), 0)) (fun k => ?_) (Ev.now _)
    simp only [observatoryref40_Run.l0]
    rw [if_neg (by omega), List.drop_of_length_le (by omega)]
    simp [runR]
  | d + 1, i, out, tk, h, h1, h2, hS, hO => by
    have hi : i < l.length := by omega
    rw [rd_drop l i hi] at hS hO ⊢
    generalize hxx : rd_T37 l (i : Int) = x at hS hO ⊢
    obtain ⟨w1, w2, b1, b2⟩ := LM_bd hlm
    have hox := hO x (by simp)
    have hcr := hS.cross
    have hall : ∀ y ∈ tk, y.f0 ≤ x.f0 := fun y hy => hcr y hy x (by simp)
    have vt : VL tk = true := VL_iff.mpr ⟨hS.left, hO.left, by omega⟩
    have okb : AllowB tk win b x.f0 x.f1 = true := by
      unfold AllowB
      simp only [Bool.and_eq_true, decide_eq_true_eq]
      exact ⟨vt, by omega, hlm, ⟨hox.1, hox.2.1⟩, hox.2.2.1, hox.2.2.2⟩
    have hno : ¬ (0 < tk.length ∧ x.f0 < (rd_T37 tk ((tk.length : Int) - 1)).f0) := by
      intro hh
      have hm : rd_T37 tk ((tk.length : Int) - 1) ∈ tk := by
        unfold rd_T37
        rw [List.getD_eq_getElem?_getD, List.getElem?_eq_getElem (by omega : ((tk.length : Int) - 1).toNat < tk.length)]
        exact List.getElem_mem _
      have := hall _ hm
      omega
    have eA : AllowV tk win b x.f0 x.f1 = if cw win x.f0 tk + x.f1 > b then 23 else 0 := by
      unfold AllowV
      rw [if_pos okb, if_neg hno, keep_cw hS.left hall]
    obtain ⟨K1, k1⟩ := rallow_ev tk win b x.f0 x.f1 (by omega)
    rw [eA] at k1
    have hS1 : Srt (tk ++ l.drop (i + 1)) := List.Pairwise.sublist (List.Sublist.append (List.Sublist.refl tk) (List.sublist_cons_self x _)) hS
    have hO1 : Ok (tk ++ l.drop (i + 1)) := fun y hy => hO y (by rcases List.mem_append.mp hy with hy | hy <;> simp [hy])
    by_cases c : cw win x.f0 tk + x.f1 > b
    · rw [if_pos c] at k1
      obtain ⟨K2, k2⟩ := rrun_l0 l win b hl hlm d (i + 1) (out ++ [false]) tk (by omega) (by simp; omega) (by omega) hS1 hO1
      refine ⟨K1 + K2 + 1, fun k hk => ?_⟩
      obtain ⟨n, rfl⟩ : ∃ n, k = n + 1 := ⟨k - 1, by omega⟩
      have e1 := k1 n (by omega)
      have e2 := k2 n (by omega)
      simp only at e1 e2
      simp only [observatoryref40_Run.l0, hxx]
      rw [if_pos (by omega), if_pos (by omega), e1]
      simp only [Option.bind_some]
      rw [if_neg (by decide), if_pos (by omega), wr (x := (i : Int) + 1) (by omega) (by omega), runR, if_pos c]
      rw [List.append_assoc, List.singleton_append] at e2
      exact e2
    · rw [if_neg c] at k1
      obtain ⟨K2, k2⟩ := rrun_l0 l win b hl hlm d (i + 1) (out ++ [true]) (tk ++ [x]) (by omega) (by simp; omega) (by simp; omega) (by rw [List.append_assoc]; exact hS) (by rw [List.append_assoc]; exact hO)
      refine ⟨K1 + K2 + 1, fun k hk => ?_⟩
      obtain ⟨n, rfl⟩ : ∃ n, k = n + 1 := ⟨k - 1, by omega⟩
      have e1 := k1 n (by omega)
      have e2 := k2 n (by omega)
      simp only at e1 e2
      simp only [observatoryref40_Run.l0, hxx]
      rw [if_pos (by omega), if_pos (by omega), e1]
      simp only [Option.bind_some]
      rw [if_pos trivial, if_pos (by omega), if_pos (by omega), wr (x := (i : Int) + 1) (by omega) (by omega), runR, if_neg c]
      rw [List.append_assoc, List.singleton_append] at e2
      exact e2
theorem rrun_ev (l : List S37) (win b : Int) (hl : l.length ≤ 1000) : Ev (fun k => observatoryref40_Run.f k win b l) (if (VL l && LM win b) = true then (runV win b [] l, 0) else ([], 1)) := by
  obtain ⟨K1, h1⟩ := rvalid_ev l (by omega)
  by_cases v : VL l = true
  · obtain ⟨hS, hO, hlen⟩ := VL_iff.mp v
    by_cases m : LM win b = true
    · have hm := m
      rw [LM_eq, Bool.and_eq_true] at hm
      obtain ⟨w1, w2, b1, b2⟩ := LM_bd m
      obtain ⟨K2, h2⟩ := rrun_l0 l win b hlen m l.length 0 [] [] (by omega) (by simp) (by simp) (by simpa using hS) (by simpa using hO)
      rw [if_pos (by rw [v, m]; rfl), run_eq0 (by omega) hS hO]
      refine ⟨K1 + K2 + 1, fun k hk => ?_⟩
      obtain ⟨n, rfl⟩ : ∃ n, k = n + 1 := ⟨k - 1, by omega⟩
      have e1 := h1 (n + 1) (by omega)
      have e2 : observatoryref40_Run.l0 n win b l [] [] 0 = some (runR win b [] l, 0) := h2 n (by omega)
      simp only at e1
      simp only [observatoryref40_Run.f, e1, Option.bind_some, window_f, budget_f, observatoryref40_Run.j0, e2]
      rw [if_pos v, if_pos hm.1, hm.2]
      rfl
    · rw [if_neg (by rw [v, Bool.true_and]; exact m)]
      refine ⟨K1 + 1, fun k hk => ?_⟩
      obtain ⟨n, rfl⟩ : ∃ n, k = n + 1 := ⟨k - 1, by omega⟩
      have e1 := h1 (n + 1) (by omega)
      simp only at e1
      simp only [observatoryref40_Run.f, e1, Option.bind_some, window_f, budget_f, observatoryref40_Run.j0]
      rw [if_pos v]
      by_cases c1 : 1 ≤ win ∧ win ≤ 38400
      · rw [if_pos (decide_eq_true c1)]
        have c2 : decide (0 ≤ b ∧ b ≤ 1000000) = false := by
          cases h : decide (0 ≤ b ∧ b ≤ 1000000)
          · rfl
          · exact absurd (by rw [LM_eq, decide_eq_true c1, h]; rfl) m
        rw [c2]
        rfl
      · rw [if_neg (by simpa using c1)]
        rfl
  · rw [if_neg (by simp [v])]
    refine ⟨K1 + 1, fun k hk => ?_⟩
    obtain ⟨n, rfl⟩ : ∃ n, k = n + 1 := ⟨k - 1, by omega⟩
    have e1 := h1 (n + 1) (by omega)
    simp only at e1
    simp only [observatoryref40_Run.f, e1, Option.bind_some, observatoryref40_Run.j0]
    rw [if_neg v]
    rfl
theorem rworst_l0 (l : List S37) (win : Int) (hl : l.length ≤ 1000) (hO : Ok l) (w1 : 1 ≤ win) (w2 : win ≤ 38400) : ∀ (d i : Nat) (acc : Int), i + d = l.length → 0 ≤ acc → Ev (fun k => observatoryref40_Worst.l0 k l win acc (i : Int)) (mx acc (wm win l (l.drop i)), 0)
  | 0, i, acc, h, h0 => by
    refine Ev.step (f := fun _ => some (mx acc (wm win l (l.drop i)), 0)) (fun k => ?_) (Ev.now _)
    simp only [observatoryref40_Worst.l0]
    rw [if_neg (by omega), List.drop_of_length_le (by omega)]
    simp only [wm]
    congr 2
    unfold mx
    split <;> omega
  | d + 1, i, acc, h, h0 => by
    have hi : i < l.length := by omega
    have hx := hO.rd (i := (i : Int)) (by omega) (by omega)
    rw [rd_drop l i hi]
    generalize hxx : rd_T37 l (i : Int) = x at hx ⊢
    obtain ⟨K1, k1⟩ := rcost_ev l win x.f0 hl hO (wr (by omega) (by omega))
    obtain ⟨K2, k2⟩ := rworst_l0 l win hl hO w1 w2 d (i + 1) (mx acc (cw win x.f0 l)) (by omega) (le_mx.mpr (.inl h0))
    refine ⟨K1 + K2 + 1, fun k hk => ?_⟩
    obtain ⟨n, rfl⟩ : ∃ n, k = n + 1 := ⟨k - 1, by omega⟩
    have e1 := k1 n (by omega)
    have e2 := k2 n (by omega)
    simp only at e1 e2
    simp only [observatoryref40_Worst.l0, hxx]
    rw [if_pos (by omega), if_pos (by omega), e1]
    simp only [Option.bind_some]
    rw [wr (x := (i : Int) + 1) (by omega) (by omega)]
    rw [mx_assoc] at e2
    exact e2
theorem rworst_ev (l : List S37) (win : Int) (hl : l.length ≤ 1000) : Ev (fun k => observatoryref40_Worst.f k l win) (if (VL l && LM win 0) = true then (worstV win [] 0 l, 0) else (0, 1)) := by
  obtain ⟨K1, h1⟩ := rvalid_ev l (by omega)
  have hL0 : LM win 0 = decide (1 ≤ win ∧ win ≤ 38400) := by rw [LM_eq]; simp
  by_cases v : VL l = true
  · obtain ⟨hS, hO, hlen⟩ := VL_iff.mp v
    by_cases m : LM win 0 = true
    · obtain ⟨w1, w2, _, _⟩ := LM_bd m
      obtain ⟨K2, h2⟩ := rworst_l0 l win hl hO w1 w2 l.length 0 0 (by omega) (by omega)
      have hn := wm_nonneg (win := win) hO (l := l)
      have e0 : mx 0 (wm win l l) = wm win l l := by unfold mx; split <;> omega
      rw [if_pos (by rw [v, m]; rfl), worst_wm (by omega) hS hO]
      refine ⟨K1 + K2 + 1, fun k hk => ?_⟩
      obtain ⟨n, rfl⟩ : ∃ n, k = n + 1 := ⟨k - 1, by omega⟩
      have e1 := h1 (n + 1) (by omega)
      have e2 : observatoryref40_Worst.l0 n l win 0 0 = some (wm win l l, 0) := by
        have := h2 n (by omega)
        simp only [List.drop_zero, e0] at this
        exact this
      simp only at e1
      simp only [observatoryref40_Worst.f, e1, Option.bind_some, window_f, observatoryref40_Worst.j0, e2]
      rw [if_pos v, ← hL0, m]
      rfl
    · rw [if_neg (by rw [v, Bool.true_and]; exact m)]
      refine ⟨K1 + 1, fun k hk => ?_⟩
      obtain ⟨n, rfl⟩ : ∃ n, k = n + 1 := ⟨k - 1, by omega⟩
      have e1 := h1 (n + 1) (by omega)
      simp only at e1
      simp only [observatoryref40_Worst.f, e1, Option.bind_some, window_f, observatoryref40_Worst.j0]
      rw [if_pos v, ← hL0, show LM win 0 = false by simpa using m]
      rfl
  · rw [if_neg (by simp [v])]
    refine ⟨K1 + 1, fun k hk => ?_⟩
    obtain ⟨n, rfl⟩ : ∃ n, k = n + 1 := ⟨k - 1, by omega⟩
    have e1 := h1 (n + 1) (by omega)
    simp only at e1
    simp only [observatoryref40_Worst.f, e1, Option.bind_some, observatoryref40_Worst.j0]
    rw [if_neg v]
    rfl
theorem match_law (l : List S37) (win b a c : Int) (_hc : -9223372036854775808 ≤ a ∧ a ≤ 9223372036854775807) (_hw : -9223372036854775808 ≤ win ∧ win ≤ 9223372036854775807) : ∃ k, observatorylaw40_PreemptMatchesReference.f k l win b a c = some true := by
  by_cases hl : l.length ≤ 210
  · obtain ⟨K1, h1⟩ := rrun_ev l win b (by omega)
    obtain ⟨K2, h2⟩ := rworst_ev l win (by omega)
    obtain ⟨K3, h3⟩ := rallow_ev l win b a c (by omega)
    obtain ⟨K4, h4⟩ := bools_ev' (if (VL l && LM win b) = true then (runV win b [] l, 0) else (([] : List Bool), (1 : Int))).1 (by split <;> simp only [runV_len, List.length_nil] <;> omega)
    refine ⟨K1 + K2 + K3 + K4, ?_⟩
    have e1 := h1 (K1 + K2 + K3 + K4) (by omega)
    have e2 := h2 (K1 + K2 + K3 + K4) (by omega)
    have e3 := h3 (K1 + K2 + K3 + K4) (by omega)
    have e4 := h4 (K1 + K2 + K3 + K4) (by omega)
    simp only at e1 e2 e3 e4
    have eA : preempt_Allow.f (K1 + K2 + K3 + K4) l win b a c = some (AllowV l win b a c) := rfl
    simp only [observatorylaw40_PreemptMatchesReference.f, observatorylaw40_head.f, Option.bind_some, e1, e2, e3, eA, preempt_Run.f, preempt_Worst.f, e4]
    rw [if_neg (by omega)]
    simp
  · refine ⟨0, ?_⟩
    simp only [observatorylaw40_PreemptMatchesReference.f, observatorylaw40_head.f, Option.bind_some]
    rw [if_pos (by omega)]
end Go.Proofs.Ytmndechaeaidcaa.Px
