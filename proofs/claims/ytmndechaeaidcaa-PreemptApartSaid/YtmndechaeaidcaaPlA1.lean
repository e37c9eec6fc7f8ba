/- The plain law PreemptApart. -/
import Derived.Test.YtmndechaeaidcaaPlS
import Derived.Test.YtmndechaeaidcaaPxx24
namespace Go.Proofs.Ytmndechaeaidcaa.Px
open Go.RowKit Go.Proofs.YtmndechaeaidcaaW.PrintWords Go.Proofs.YtmndechaeaidcaaW.PrintLast Go.Proofs.YtmndechaeaidcaaW.PrintMore
set_option linter.unusedVariables false
set_option linter.unusedSimpArgs false

/-- What is kept behind a run. -/
def stV (win budget : Int) : List S37 → List S37 → List S37
  | cur, [] => cur
  | cur, x :: l => if sumC (keep (x.f0 - win) cur) + x.f1 > budget then stV win budget (keep (x.f0 - win) cur) l else stV win budget (keep (x.f0 - win) cur ++ [x]) l
theorem runV_cons (win b : Int) (cur : List S37) (x : S37) (l : List S37) : runV win b cur (x :: l) = if sumC (keep (x.f0 - win) cur) + x.f1 > b then false :: runV win b (keep (x.f0 - win) cur) l else true :: runV win b (keep (x.f0 - win) cur ++ [x]) l := by rw [runV]
theorem stV_cons (win b : Int) (cur : List S37) (x : S37) (l : List S37) : stV win b cur (x :: l) = if sumC (keep (x.f0 - win) cur) + x.f1 > b then stV win b (keep (x.f0 - win) cur) l else stV win b (keep (x.f0 - win) cur ++ [x]) l := by rw [stV]
theorem run_append {win b : Int} : ∀ (p q cur : List S37), runV win b cur (p ++ q) = runV win b cur p ++ runV win b (stV win b cur p) q
  | [], q, cur => rfl
  | x :: p, q, cur => by
    rw [List.cons_append, runV_cons win b cur x (p ++ q), runV_cons win b cur x p, stV_cons win b cur x p]
    by_cases c : sumC (keep (x.f0 - win) cur) + x.f1 > b
    · simp only [if_pos c, List.cons_append]
      rw [run_append p q]
    · simp only [if_neg c, List.cons_append]
      rw [run_append p q]
theorem keep_all {t T : Int} : ∀ {l : List S37}, (∀ x ∈ l, x.f0 ≤ T) → ∀ x ∈ keep t l, x.f0 ≤ T
  | [], h => h
  | y :: l, h => by
    unfold keep
    split
    · exact keep_all (fun x hx => h x (by simp [hx]))
    · exact h
theorem st_all {win b T : Int} : ∀ (p cur : List S37), (∀ x ∈ cur, x.f0 ≤ T) → (∀ x ∈ p, x.f0 ≤ T) → ∀ x ∈ stV win b cur p, x.f0 ≤ T
  | [], cur, h, _ => h
  | y :: p, cur, h, hp => by
    have h1 := keep_all (t := y.f0 - win) h
    unfold stV
    split
    · exact st_all p _ h1 (fun x hx => hp x (by simp [hx]))
    · refine st_all p _ (fun x hx => ?_) (fun x hx => hp x (by simp [hx]))
      rcases List.mem_append.mp hx with hx | hx
      · exact h1 x hx
      · obtain rfl : x = y := by simpa using hx
        exact hp x (by simp)
theorem run_fresh {win b : Int} {cur : List S37} {y : S37} {l : List S37} (h : ∀ x ∈ cur, x.f0 ≤ y.f0 - win) : runV win b cur (y :: l) = runV win b [] (y :: l) := by
  unfold runV
  rw [keep_none h]
  rfl
def sh (t : Int) (x : S37) : S37 := ⟨x.f0 + t, x.f1⟩
theorem sh_sc (t : Int) : sh t = sc 1 t := by
  funext x
  simp [sh, sc]
theorem run_sh {win b t : Int} (l : List S37) : runV win b [] (l.map (sh t)) = runV win b [] l := by
  have h := run_sc (win := win) (b := b) (k := 1) (t := t) (Int.le_refl _) l []
  rw [Int.one_mul] at h
  rw [sh_sc]
  exact h
theorem last_max {l : List S37} (h : Srt l) (hn : l ≠ []) : rd_T37 l ((l.length : Int) - 1) ∈ l ∧ ∀ y ∈ l, y.f0 ≤ (rd_T37 l ((l.length : Int) - 1)).f0 := by
  have hp : 0 < l.length := List.length_pos_iff.mpr hn
  have e : rd_T37 l ((l.length : Int) - 1) = l[l.length - 1]'(by omega) := by
    unfold rd_T37
    rw [List.getD_eq_getElem?_getD, show ((l.length : Int) - 1).toNat = l.length - 1 by omega, List.getElem?_eq_getElem (by omega)]
    rfl
  rw [e]
  refine ⟨List.getElem_mem _, fun y hy => ?_⟩
  obtain ⟨i, hi, rfl⟩ := List.mem_iff_getElem.mp hy
  by_cases c : i = l.length - 1
  · subst c; exact Int.le_refl _
  · exact (List.pairwise_iff_getElem.mp h) i (l.length - 1) hi (by omega) (by omega)
theorem apart_l0 (a b : List S37) (win bud by_ : Int) (ha : a.length ≤ 60) (hb : b.length ≤ 60) (hbn : b ≠ []) (aS : Srt a) (aO : Ok a) (bS : Srt b) (bO : Ok b) (hlm : LM win bud = true) (y0 : 0 ≤ by_) (y1 : by_ ≤ 100000) (hy : ∀ x ∈ a, ∀ y ∈ b, x.f0 ≤ y.f0 + by_ - win) : ∀ (d i : Nat), i + d = b.length →
    Ev (fun k => observatorylaw40_PreemptApart.l0 k b win bud true (runV win bud [] a) (runV win bud [] b) by_ (a ++ (b.take i).map (sh by_)) (i : Int)) true
  | 0, i, h => by
    rw [List.take_of_length_le (by omega)]
    obtain ⟨w1, w2, c1, c2⟩ := LM_bd hlm
    obtain ⟨L, hL⟩ : ∃ L, L = a ++ b.map (sh by_) := ⟨_, rfl⟩
    rw [← hL]
    have hLlen : L.length = a.length + b.length := by rw [hL]; simp
    have hLn : L ≠ [] := by
      rw [hL]
      intro e
      exact hbn (List.map_eq_nil_iff.mp (List.append_eq_nil_iff.mp e).2)
    have bS' : Srt (b.map (sh by_)) := by
      refine List.pairwise_map.mpr (bS.imp (fun h => ?_))
      simp only [sh]
      omega
    have hLS : Srt L := by
      rw [hL]
      refine List.pairwise_append.mpr ⟨aS, bS', fun x hx y hy' => ?_⟩
      obtain ⟨z, hz, rfl⟩ := List.mem_map.mp hy'
      have := hy x hx z hz
      simp only [sh]
      omega
    have ez : runV win bud [] L = runV win bud [] a ++ runV win bud [] b := by
      rw [hL, run_append]
      congr 1
      cases hb' : b with
      | nil => exact absurd hb' hbn
      | cons y b' =>
        rw [← run_sh (t := by_) (y :: b'), List.map_cons]
        refine run_fresh (fun x hx => ?_)
        refine st_all a [] (fun x hx => by cases hx) (fun x hx => ?_) x hx
        have := hy x hx y (by rw [hb']; simp)
        simp only [sh]
        omega
    obtain ⟨hmem, hmax⟩ := last_max hLS hLn
    generalize hlast : rd_T37 L ((L.length : Int) - 1) = z at hmem hmax
    have hpos : 0 < L.length := List.length_pos_iff.mpr hLn
    obtain ⟨K, hK⟩ := bools_ev (runV win bud [] a ++ runV win bud [] b) (by rw [List.length_append, runV_len, runV_len]; omega)
    refine ⟨K + 1, fun k hk => ?_⟩
    obtain ⟨n, rfl⟩ : ∃ n, k = n + 1 := ⟨k - 1, by omega⟩
    have e := hK n (by omega)
    simp only at e
    simp only [observatorylaw40_PreemptApart.l0]
    rw [if_neg (by omega), wr (x := (L.length : Int) - 1) (by omega) (by omega), hlast]
    by_cases c : z.f0 > 38399
    · have hv : VL L = false := by
        cases hv : VL L
        · rfl
        · exact absurd ((VL_iff.mp hv).2.1 z hmem) (by omega)
      simp only [preempt_Run.f, hv, Bool.false_and, Option.bind_some]
      rw [if_pos (by omega), if_pos (by omega), if_pos c]
      simp
    · have hLO : Ok L := fun x hx => by
        have h1 := hmax x hx
        rw [hL] at hx
        rcases List.mem_append.mp hx with hx | hx
        · exact aO x hx
        · obtain ⟨q, hq, rfl⟩ := List.mem_map.mp hx
          have := bO q hq
          simp only [sh] at h1 ⊢
          omega
      have hv : VL L = true := VL_iff.mpr ⟨hLS, hLO, by omega⟩
      simp only [preempt_Run.f, hv, hlm, Bool.and_self, if_true, Option.bind_some, ez]
      rw [if_pos (by omega), if_pos (by omega), if_neg c]
      simp only [List.nil_append, List.length_nil, Nat.zero_add, runV_len]
      rw [if_pos (by omega), if_pos (by omega), e]
      rfl
  | d + 1, i, h => by
    have hi : i < b.length := by omega
    have hx := bO.rd (i := (i : Int)) (by omega) (by omega)
    have ht : b.take (i + 1) = b.take i ++ [rd_T37 b (i : Int)] := by
      rw [List.take_succ_eq_append_getElem hi]
      simp [rd_T37, List.getD, hi]
    have ih := apart_l0 a b win bud by_ ha hb hbn aS aO bS bO hlm y0 y1 hy d (i + 1) (by omega)
    rw [ht, List.map_append, ← List.append_assoc] at ih
    generalize hxx : rd_T37 b (i : Int) = x at hx ih
    refine Ev.step (f := fun k => observatorylaw40_PreemptApart.l0 k b win bud true (runV win bud [] a) (runV win bud [] b) by_ (a ++ (b.take i).map (sh by_) ++ [x].map (sh by_)) ((i + 1 : Nat) : Int)) (fun k => ?_) ih
    simp only [observatorylaw40_PreemptApart.l0, hxx]
    rw [if_pos (by omega), if_pos (by omega), if_pos (by rw [List.length_append, List.length_map, List.length_take]; omega), wr (x := x.f0 + by_) (by omega) (by omega), wr (x := (i : Int) + 1) (by omega) (by omega)]
    rfl
theorem apart_law (a b : List S37) (win bud : Int) : ∃ k, observatorylaw40_PreemptApart.f k a b win bud = some true := by
  by_cases ha : a.length ≤ 60
  · by_cases hb : b.length ≤ 60
    · by_cases c1 : (VL a && LM win bud) = true
      · by_cases c2 : (VL b && LM win bud) = true
        · by_cases na : a = []
          · refine ⟨2, ?_⟩
            subst na
            simp only [observatorylaw40_PreemptApart.f, observatorylaw40_head.f, Option.bind_some, observatorylaw40_PreemptApart.j0, observatorylaw40_PreemptApart.j1, preempt_Run.f, if_pos c1, if_pos c2]
            simp
          · by_cases nb : b = []
            · refine ⟨2, ?_⟩
              subst nb
              simp only [observatorylaw40_PreemptApart.f, observatorylaw40_head.f, Option.bind_some, observatorylaw40_PreemptApart.j0, observatorylaw40_PreemptApart.j1, preempt_Run.f, if_pos c1, if_pos c2]
              rw [if_neg (by omega)]
              simp
            · have va : VL a = true := by simp only [Bool.and_eq_true] at c1; exact c1.1
              have vb : VL b = true := by simp only [Bool.and_eq_true] at c2; exact c2.1
              have hlm : LM win bud = true := by simp only [Bool.and_eq_true] at c1; exact c1.2
              obtain ⟨aS, aO, _⟩ := VL_iff.mp va
              obtain ⟨bS, bO, _⟩ := VL_iff.mp vb
              obtain ⟨w1, w2, _, _⟩ := LM_bd hlm
              have hap := List.length_pos_iff.mpr na
              have hbp := List.length_pos_iff.mpr nb
              obtain ⟨amem, amax⟩ := last_max aS na
              have hza := aO _ amem
              have hb0 := bO.rd (i := 0) (by omega) (by omega)
              have bmin : ∀ y ∈ b, (rd_T37 b 0).f0 ≤ y.f0 := by
                intro y hy
                cases hb' : b with
                | nil => exact absurd hb' nb
                | cons q b' =>
                  rw [hb'] at hy bS
                  have : rd_T37 (q :: b') 0 = q := rfl
                  rw [this]
                  rcases List.mem_cons.mp hy with rfl | hy
                  · exact Int.le_refl _
                  · exact (List.pairwise_cons.mp bS).1 y hy
              generalize hz : rd_T37 a ((a.length : Int) - 1) = z at amem amax hza
              generalize hq : rd_T37 b 0 = q at hb0 bmin
              obtain ⟨by_, hby⟩ : ∃ by_, by_ = mx 0 (z.f0 + win - q.f0) := ⟨_, rfl⟩
              have y0 : 0 ≤ by_ ∧ by_ ≤ 100000 ∧ z.f0 + win - q.f0 ≤ by_ := by rw [hby]; unfold mx; split <;> omega
              obtain ⟨K, hK⟩ := apart_l0 a b win bud by_ ha hb nb aS aO bS bO hlm y0.1 y0.2.1 (fun x hx y hy => by have h1 := amax x hx; have h2 := bmin y hy; omega) b.length 0 (by omega)
              have hK' : observatorylaw40_PreemptApart.l0 K b win bud true (runV win bud [] a) (runV win bud [] b) by_ a 0 = some true := by
                have := hK K (Nat.le_refl _)
                simpa using this
              refine ⟨K + 2, ?_⟩
              simp only [observatorylaw40_PreemptApart.f, observatorylaw40_head.f, Option.bind_some, observatorylaw40_PreemptApart.j0, observatorylaw40_PreemptApart.j1, preempt_Run.f, if_pos c1, if_pos c2]
              rw [if_neg (by omega), wr (x := (a.length : Int) - 1) (by omega) (by omega), hz, hq, wr (x := z.f0 + win) (by omega) (by omega), wr (x := z.f0 + win - q.f0) (by omega) (by omega), ← hby]
              simp only [List.nil_append, List.length_nil, Nat.zero_add, hK']
              rw [if_neg (show ¬ decide ((b.length : Int) > 60) = true by simp; omega)]
              simp only [if_true]
              rw [if_neg (by omega), if_neg (by simp; omega), if_pos (by omega), if_pos (by omega), if_pos (by omega), if_pos (by omega)]
        · refine ⟨2, ?_⟩
          simp only [observatorylaw40_PreemptApart.f, observatorylaw40_head.f, Option.bind_some, observatorylaw40_PreemptApart.j0, observatorylaw40_PreemptApart.j1, preempt_Run.f, if_pos c1, if_neg c2]
          rw [if_neg (by omega)]
          split <;> rfl
      · refine ⟨2, ?_⟩
        have hd : decide ((b.length : Int) > 60) = false := decide_eq_false (by omega)
        simp only [observatorylaw40_PreemptApart.f, observatorylaw40_head.f, Option.bind_some, preempt_Run.f, hd]
        rw [if_neg (by omega)]
        show observatorylaw40_PreemptApart.j0 (1 + 1) a b win bud true false = some true
        have er : preempt_Run.f 1 win bud a = some ([], 1) := by simp only [preempt_Run.f, if_neg c1]
        simp only [observatorylaw40_PreemptApart.j0, er, Option.bind_some]
        rw [if_neg (by simp)]
        simp only [preempt_Run.f, Option.bind_some]
        rw [if_neg (by decide)]
        rfl
    · refine ⟨1, ?_⟩
      simp only [observatorylaw40_PreemptApart.f, observatorylaw40_head.f, Option.bind_some, observatorylaw40_PreemptApart.j0]
      rw [if_neg (by omega), if_pos (decide_eq_true (by omega))]
  · refine ⟨1, ?_⟩
    simp only [observatorylaw40_PreemptApart.f, observatorylaw40_head.f, Option.bind_some, observatorylaw40_PreemptApart.j0]
    rw [if_pos (by omega)]
    rfl
end Go.Proofs.Ytmndechaeaidcaa.Px
