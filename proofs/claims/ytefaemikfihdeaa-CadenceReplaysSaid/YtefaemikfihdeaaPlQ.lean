/- The plain law CadenceReplays. -/
import Derived.Test.YtefaemikfihdeaaPlP
import Derived.Test.YtefaemikfihdeaaExtE
import Derived.OpenShut
namespace Go.Proofs.Ytefaemikfihdeaa.Px
open Go.RowKit Go.Proofs.YtefaemikfihdeaaW.PrintWords Go.Proofs.YtefaemikfihdeaaW.PrintLast Go.Proofs.YtefaemikfihdeaaW.PrintMore
set_option linter.unusedVariables false
set_option linter.unusedSimpArgs false
theorem replay_zero' {l : List S35} {a : Int} {ms : List Int} (h : (replayV l a ms).2.2.2.2.2 = 0) : VB l a = true ∧ replayV l a ms = repV l a ms 0 0 0 false 0 := by
  unfold replayV at h ⊢
  by_cases v : VB l a = true
  · rw [if_pos v]; exact ⟨v, rfl⟩
  · rw [if_neg v] at h; simp at h
theorem repV_cons {l : List S35} {a m : Int} {ms : List Int} {c0 c1 c2 : Int} {c3 : Bool} {i : Int} (h : (repV l a (m :: ms) c0 c1 c2 c3 i).2.2.2.2.2 = 0) :
    (advV l a c0 c1 c2 c3 m).2.2.2.2 = 0 ∧ repV l a (m :: ms) c0 c1 c2 c3 i = repV l a ms (advV l a c0 c1 c2 c3 m).1 (advV l a c0 c1 c2 c3 m).2.1 (advV l a c0 c1 c2 c3 m).2.2.1 (advV l a c0 c1 c2 c3 m).2.2.2.1 (i + 1) := by
  simp only [repV] at h ⊢
  by_cases z : (advV l a c0 c1 c2 c3 m).2.2.2.2 = 0
  · rw [if_pos z]
    exact ⟨z, rfl⟩
  · rw [if_neg z] at h
    exact absurd h z
theorem rep_cnt (l : List S35) (a : Int) : ∀ (ms : List Int) (c0 c1 c2 : Int) (c3 : Bool) (i : Int), (repV l a ms c0 c1 c2 c3 i).2.2.2.2.2 = 0 → (repV l a ms c0 c1 c2 c3 i).2.2.2.2.1 = i + ms.length
  | [], c0, c1, c2, c3, i, _ => by simp [repV]
  | m :: ms, c0, c1, c2, c3, i, h => by
    obtain ⟨z, e⟩ := repV_cons h
    rw [e] at h ⊢
    rw [rep_cnt l a ms _ _ _ _ _ h, List.length_cons]
    omega
theorem rep_bad (l : List S35) (a : Int) : ∀ (ms : List Int) (c0 c1 c2 : Int) (c3 : Bool) (i : Int), (repV l a ms c0 c1 c2 c3 i).2.2.2.2.2 ≠ 0 → ∃ j e, repV l a ms c0 c1 c2 c3 i = (0, 0, 0, false, j, e) ∧ e ≠ 0 ∧ i ≤ j ∧ j ≤ i + ms.length
  | [], c0, c1, c2, c3, i, h => absurd rfl h
  | m :: ms, c0, c1, c2, c3, i, h => by
    simp only [repV] at h ⊢
    by_cases z : (advV l a c0 c1 c2 c3 m).2.2.2.2 = 0
    · rw [if_pos z] at h ⊢
      obtain ⟨j, e, h1, h2, h3, h4⟩ := rep_bad l a ms _ _ _ _ _ h
      exact ⟨j, e, h1, h2, by omega, by rw [List.length_cons]; omega⟩
    · rw [if_neg z]
      exact ⟨_, _, rfl, z, Int.le_refl _, by rw [List.length_cons]; omega⟩
theorem rep_app (l : List S35) (a : Int) (ys : List Int) : ∀ (xs : List Int) (c0 c1 c2 : Int) (c3 : Bool) (i : Int), (repV l a xs c0 c1 c2 c3 i).2.2.2.2.2 = 0 → repV l a (xs ++ ys) c0 c1 c2 c3 i = repV l a ys (repV l a xs c0 c1 c2 c3 i).1 (repV l a xs c0 c1 c2 c3 i).2.1 (repV l a xs c0 c1 c2 c3 i).2.2.1 (repV l a xs c0 c1 c2 c3 i).2.2.2.1 (i + xs.length)
  | [], c0, c1, c2, c3, i, _ => by simp [repV]
  | m :: xs, c0, c1, c2, c3, i, h => by
    obtain ⟨z, e⟩ := repV_cons h
    rw [e] at h ⊢
    have ih := rep_app l a ys xs _ _ _ _ _ h
    have e2 : repV l a (m :: xs ++ ys) c0 c1 c2 c3 i = repV l a (xs ++ ys) (advV l a c0 c1 c2 c3 m).1 (advV l a c0 c1 c2 c3 m).2.1 (advV l a c0 c1 c2 c3 m).2.2.1 (advV l a c0 c1 c2 c3 m).2.2.2.1 (i + 1) := by
      show repV l a (m :: (xs ++ ys)) c0 c1 c2 c3 i = _
      simp only [repV]
      rw [if_pos z]
    rw [e2, ih, List.length_cons, show i + 1 + (xs.length : Int) = i + ((xs.length + 1 : Nat) : Int) by omega]
theorem rep_app_bad (l : List S35) (a : Int) (ys : List Int) : ∀ (xs : List Int) (c0 c1 c2 : Int) (c3 : Bool) (i : Int), (repV l a xs c0 c1 c2 c3 i).2.2.2.2.2 ≠ 0 → repV l a (xs ++ ys) c0 c1 c2 c3 i = repV l a xs c0 c1 c2 c3 i
  | [], c0, c1, c2, c3, i, h => absurd rfl h
  | m :: xs, c0, c1, c2, c3, i, h => by
    show repV l a (m :: (xs ++ ys)) c0 c1 c2 c3 i = _
    simp only [repV] at h ⊢
    by_cases z : (advV l a c0 c1 c2 c3 m).2.2.2.2 = 0
    · rw [if_pos z] at h
      rw [if_pos z, if_pos z]
      exact rep_app_bad l a ys xs _ _ _ _ _ h
    · rw [if_neg z, if_neg z]
theorem rep_take {l : List S35} {a : Int} {ms : List Int} (h : (repV l a ms 0 0 0 false 0).2.2.2.2.2 = 0) (n : Nat) : (repV l a (ms.take n) 0 0 0 false 0).2.2.2.2.2 = 0 := by
  by_cases z : (repV l a (ms.take n) 0 0 0 false 0).2.2.2.2.2 = 0
  · exact z
  · have e := rep_app_bad l a (ms.drop n) (ms.take n) 0 0 0 false 0 z
    rw [List.take_append_drop] at e
    rw [e] at h
    exact h
/-- each gap is within its step's. -/
def GapsOK (l : List S35) : List Int → Int → Nat → Prop
  | [], _, _ => True
  | m :: ms, p, i => (i ≠ 0 → (rd_T35 l ((i % l.length : Nat) : Int)).f1 ≤ m - p ∧ m - p ≤ (rd_T35 l ((i % l.length : Nat) : Int)).f2) ∧ (0 ≤ m ∧ m ≤ 38399) ∧ GapsOK l ms m (i + 1)
theorem adv_rdy {l : List S35} {a c0 c1 c2 : Int} {c3 : Bool} {m : Int} (h : (advV l a c0 c1 c2 c3 m).2.2.2.2 = 0) : rdyV l a c0 c1 c2 c3 m = 0 := by
  unfold advV at h
  by_cases z : rdyV l a c0 c1 c2 c3 m = 0
  · exact z
  · rw [if_neg z] at h
    exact absurd h z
theorem rep_gaps (l : List S35) (a : Int) : ∀ (ms : List Int) (c0 c1 c2 p : Int) (c3 : Bool) (i : Nat) (t : Int), (repV l a ms c0 c1 c2 c3 t).2.2.2.2.2 = 0 → 0 ≤ c0 → c0 < l.length → 0 ≤ c1 → c1 * (l.length : Int) + c0 = (i : Int) → (i ≠ 0 → c2 = p) → GapsOK l ms p i
  | [], _, _, _, _, _, _, _, _, _, _, _, _, _ => trivial
  | m :: ms, c0, c1, c2, p, c3, i, t, h, h0, h1, h2, h3, h4 => by
    obtain ⟨z, e⟩ := repV_cons h
    rw [e] at h
    have r := adv_rdy z
    obtain ⟨rfl, hc, m0, m1⟩ := rdy_zero r
    have hlp : 0 < l.length := by omega
    have hmod : ((i % l.length : Nat) : Int) = c0 := by
      have e1 : (i : Int) % (l.length : Int) = c0 := by
        rw [← h3, Int.add_comm, Int.add_mul_emod_self_right, Int.emod_eq_of_lt h0 h1]
      rw [← e1]
      omega
    refine ⟨fun hi => ?_, ⟨m0, m1⟩, ?_⟩
    · rw [hmod, ← h4 hi]
      unfold rdyV at r
      rw [if_pos (show CB l a c0 c1 c2 false = true ∧ 0 ≤ m ∧ m ≤ 38399 from ⟨hc, m0, m1⟩), if_neg (by simp)] at r
      have hz : ¬ c0 + c1 = 0 := by
        intro e0
        have a0 : c0 = 0 := by omega
        have a1 : c1 = 0 := by omega
        rw [a0, a1] at h3
        omega
      rw [if_neg hz] at r
      by_cases e1 : m < c2 + (rd_T35 l c0).f1
      · rw [if_pos e1] at r; simp at r
      · rw [if_neg e1] at r
        by_cases e2 : c2 + (rd_T35 l c0).f2 < m
        · rw [if_pos e2] at r; simp at r
        · omega
    · have ea : advV l a c0 c1 c2 false m = if c0 + 1 = l.length then (0, c1 + 1, m, c1 + 1 == a, 0) else (c0 + 1, c1, m, false, 0) := by unfold advV; rw [if_pos r]
      rw [ea] at h
      by_cases e1 : c0 + 1 = (l.length : Int)
      · rw [if_pos e1] at h
        exact rep_gaps l a ms 0 (c1 + 1) m m _ (i + 1) _ h (Int.le_refl _) (by omega) (by omega) (by rw [Int.add_mul]; omega) (fun _ => rfl)
      · rw [if_neg e1] at h
        exact rep_gaps l a ms (c0 + 1) c1 m m _ (i + 1) _ h (by omega) (by omega) h2 (by omega) (fun _ => rfl)
theorem gaps_at (l : List S35) : ∀ (ms : List Int) (p : Int) (b i : Nat), GapsOK l ms p b → i < ms.length → (0 ≤ rd ms (i : Int) ∧ rd ms (i : Int) ≤ 38399) ∧ (0 < i → (0 ≤ rd ms ((i : Int) - 1) ∧ rd ms ((i : Int) - 1) ≤ 38399) ∧ (rd_T35 l (((b + i) % l.length : Nat) : Int)).f1 ≤ rd ms (i : Int) - rd ms ((i : Int) - 1) ∧ rd ms (i : Int) - rd ms ((i : Int) - 1) ≤ (rd_T35 l (((b + i) % l.length : Nat) : Int)).f2)
  | [], _, _, i, _, hi => by simp at hi
  | m :: ms, p, b, 0, h, hi => ⟨h.2.1, fun q => by omega⟩
  | m :: ms, p, b, i + 1, h, hi => by
    have hi' : i < ms.length := by simpa using hi
    have ih := gaps_at l ms m (b + 1) i h.2.2 hi'
    have e : rd (m :: ms) ((i + 1 : Nat) : Int) = rd ms (i : Int) := by
      unfold rd
      rw [Int.toNat_natCast, Int.toNat_natCast, List.getD_cons_succ]
    have e0 : ((i + 1 : Nat) : Int) - 1 = (i : Int) := by omega
    rw [e, e0]
    refine ⟨ih.1, fun _ => ?_⟩
    cases i with
    | zero =>
      have e2 : rd (m :: ms) ((0 : Nat) : Int) = m := rfl
      rw [e2]
      refine ⟨h.2.1, ?_⟩
      match ms, h, hi' with
      | m2 :: ms2, h, _ =>
        have := h.2.2.1 (by omega)
        have e3 : rd (m2 :: ms2) ((0 : Nat) : Int) = m2 := rfl
        rw [e3]
        exact this
    | succ j =>
      have e2 : rd (m :: ms) ((j + 1 : Nat) : Int) = rd ms (((j + 1 : Nat) : Int) - 1) := by
        unfold rd
        rw [Int.toNat_natCast, show (((j + 1 : Nat) : Int) - 1).toNat = j by omega, List.getD_cons_succ]
      rw [e2, show b + (j + 1 + 1) = b + 1 + (j + 1) by omega]
      exact ih.2 (by omega)
/-- what the last step says. -/
theorem rep_last {l : List S35} {a : Int} {ms : List Int} {x : Int} (v : VB l a = true) (h : (repV l a ms 0 0 0 false 0).2.2.2.2.2 = 0) :
    replayV l a (ms ++ [x]) = if (advV l a (repV l a ms 0 0 0 false 0).1 (repV l a ms 0 0 0 false 0).2.1 (repV l a ms 0 0 0 false 0).2.2.1 (repV l a ms 0 0 0 false 0).2.2.2.1 x).2.2.2.2 = 0 then
      ((advV l a (repV l a ms 0 0 0 false 0).1 (repV l a ms 0 0 0 false 0).2.1 (repV l a ms 0 0 0 false 0).2.2.1 (repV l a ms 0 0 0 false 0).2.2.2.1 x).1, (advV l a (repV l a ms 0 0 0 false 0).1 (repV l a ms 0 0 0 false 0).2.1 (repV l a ms 0 0 0 false 0).2.2.1 (repV l a ms 0 0 0 false 0).2.2.2.1 x).2.1, (advV l a (repV l a ms 0 0 0 false 0).1 (repV l a ms 0 0 0 false 0).2.1 (repV l a ms 0 0 0 false 0).2.2.1 (repV l a ms 0 0 0 false 0).2.2.2.1 x).2.2.1, (advV l a (repV l a ms 0 0 0 false 0).1 (repV l a ms 0 0 0 false 0).2.1 (repV l a ms 0 0 0 false 0).2.2.1 (repV l a ms 0 0 0 false 0).2.2.2.1 x).2.2.2.1, (ms.length : Int) + 1, 0)
      else (0, 0, 0, false, (ms.length : Int), (advV l a (repV l a ms 0 0 0 false 0).1 (repV l a ms 0 0 0 false 0).2.1 (repV l a ms 0 0 0 false 0).2.2.1 (repV l a ms 0 0 0 false 0).2.2.2.1 x).2.2.2.2) := by
  unfold replayV
  rw [if_pos v, rep_app l a [x] ms 0 0 0 false 0 h]
  simp only [repV]
  rw [Int.zero_add]
theorem emod_nat (i n : Nat) : (i : Int) % (n : Int) = ((i % n : Nat) : Int) := by omega
theorem replays_end (l : List S35) (a : Int) (ms : List Int) (x c0 c1 c2 : Int) (c3 : Bool) (hl : l.length ≤ 50) (hm : ms.length ≤ 200)
    (hE : replayV l a (ms ++ [x]) = if (advV l a c0 c1 c2 c3 x).2.2.2.2 = 0 then ((advV l a c0 c1 c2 c3 x).1, (advV l a c0 c1 c2 c3 x).2.1, (advV l a c0 c1 c2 c3 x).2.2.1, (advV l a c0 c1 c2 c3 x).2.2.2.1, (ms.length : Int) + 1, 0) else (0, 0, 0, false, (ms.length : Int), (advV l a c0 c1 c2 c3 x).2.2.2.2)) (i : Nat) (hi : ¬ i < ms.length) : Ev (fun k => observatorylaw24_CadenceReplays.l0 k ms x true (i : Int) l a c0 c1 c2 c3) true := by
  obtain ⟨K1, h1⟩ := advance_ev l a c0 c1 c2 c3 x (by omega)
  obtain ⟨K2, h2⟩ := replay_ev l a (ms ++ [x]) (by omega) (by rw [List.length_append, List.length_singleton]; omega)
  refine ⟨K1 + K2 + 1, fun k hk => ?_⟩
  obtain ⟨m, rfl⟩ : ∃ m, k = m + 1 := ⟨k - 1, by omega⟩
  have t1 : ¬ (i : Int) < (ms.length : Int) := by omega
  have k1 := h1 m (by omega)
  have k2 := h2 m (by omega)
  simp only at k1 k2
  have q1 : ([] : List Int).length + ms.length < 17592186044416 := by rw [List.length_nil]; omega
  have q2 : ([] ++ ms : List Int).length + ([x] : List Int).length < 17592186044416 := by rw [List.nil_append, List.length_singleton]; omega
  have w3 : wrap64 ((ms.length : Int) + 1) = (ms.length : Int) + 1 := wr (by omega) (by omega)
  show observatorylaw24_CadenceReplays.l0 (m + 1) ms x true (i : Int) l a c0 c1 c2 c3 = some true
  rw [observatorylaw24_CadenceReplays.l0, if_neg t1, k1, Option.bind_some, Option.bind_some, if_pos q1, Option.bind_some, Option.bind_some, if_pos q2, List.nil_append, k2, Option.bind_some, hE, w3]
  by_cases z : (advV l a c0 c1 c2 c3 x).2.2.2.2 = 0
  · rw [if_pos z, if_pos z, if_pos rfl, if_pos rfl, if_pos rfl]
    simp
  · rw [if_neg z, if_neg z, if_pos rfl, if_pos rfl]
    simp
theorem replays_l0 (l : List S35) (a : Int) (ms : List Int) (x c0 c1 c2 : Int) (c3 : Bool) (hl : l.length ≤ 50) (hl1 : 1 ≤ l.length) (hm : ms.length ≤ 200) (hg : GapsOK l ms 0 0)
    (hE : replayV l a (ms ++ [x]) = if (advV l a c0 c1 c2 c3 x).2.2.2.2 = 0 then ((advV l a c0 c1 c2 c3 x).1, (advV l a c0 c1 c2 c3 x).2.1, (advV l a c0 c1 c2 c3 x).2.2.1, (advV l a c0 c1 c2 c3 x).2.2.2.1, (ms.length : Int) + 1, 0) else (0, 0, 0, false, (ms.length : Int), (advV l a c0 c1 c2 c3 x).2.2.2.2)) :
    ∀ (d i : Nat), i + d = ms.length + 1 → 1 ≤ i → Ev (fun k => observatorylaw24_CadenceReplays.l0 k ms x true (i : Int) l a c0 c1 c2 c3) true
  | 0, i, h, hi => by
    exact replays_end l a ms x c0 c1 c2 c3 hl hm hE i (by omega)
  | d + 1, i, h, hi => by
    by_cases hlt : i < ms.length
    · have g := gaps_at l ms 0 0 i hg hlt
      obtain ⟨g0, g1⟩ := g
      obtain ⟨g2, g3, g4⟩ := g1 (by omega)
      rw [Nat.zero_add] at g3 g4
      refine Ev.step (f := fun k => observatorylaw24_CadenceReplays.l0 k ms x true ((i + 1 : Nat) : Int) l a c0 c1 c2 c3) (fun k => ?_) (replays_l0 l a ms x c0 c1 c2 c3 hl hl1 hm hg hE d (i + 1) (by omega) (by omega))
      have t1 : (i : Int) < (ms.length : Int) := by omega
      have t2 : ¬ (l.length : Int) = 0 := by omega
      have t3 : (0 : Int) ≤ ((i % l.length : Nat) : Int) := by omega
      have t4 : ((i % l.length : Nat) : Int) < (l.length : Int) := by have := Nat.mod_lt i (show 0 < l.length by omega); omega
      have t5 : (0 : Int) ≤ (i : Int) := by omega
      have t6 : (0 : Int) ≤ (i : Int) - 1 := by omega
      have t7 : (i : Int) - 1 < (ms.length : Int) := by omega
      have w1 : wrap64 ((i : Int) - 1) = (i : Int) - 1 := wr (by omega) (by omega)
      have w2 : wrap64 (rd ms (i : Int) - rd ms ((i : Int) - 1)) = rd ms (i : Int) - rd ms ((i : Int) - 1) := wr (by omega) (by omega)
      have w3 : wrap64 ((i : Int) + 1) = ((i + 1 : Nat) : Int) := (wr (by omega) (by omega)).trans (by omega)
      have t8 := Int.not_lt.2 g3
      have t9 := Int.not_lt.2 g4
      have tm : Int.tmod (i : Int) (l.length : Int) = ((i % l.length : Nat) : Int) := by rw [Int.tmod_eq_emod_of_nonneg t5, emod_nat]
      rw [observatorylaw24_CadenceReplays.l0, if_pos t1, if_neg t2, tm, if_pos t3, if_pos t4, if_pos t5, w1, if_pos t6, if_pos t7, w2, if_neg t8, if_neg t9, w3]
    · exact replays_end l a ms x c0 c1 c2 c3 hl hm hE i hlt
theorem replays_pure (l : List S35) (a : Int) (ms : List Int) (x x3 : Int) (hl : l.length ≤ 50) (hm : ms.length ≤ 200) (r0 : 0 ≤ x3) (r1 : x3 ≤ 255) : ∃ k, observatorylaw24_CadenceReplays.f k l a ms x x3 = some true := by
  have hF : observatoryref24_Few.f l a = some true := by
    unfold observatoryref24_Few.f
    rw [decide_eq_true (by omega)]
  have hD : decide ((ms.length : Int) > 200) = false := decide_eq_false (by omega)
  obtain ⟨K1, h1⟩ := replay_ev l a ms (by omega) (by omega)
  by_cases z : (replayV l a ms).2.2.2.2.2 = 0
  · obtain ⟨v, er⟩ := replay_zero' z
    have b := VB_bd v
    rw [er] at z h1
    obtain ⟨q, hq⟩ : ∃ q : Nat, q = x3.toNat % (ms.length + 1) := ⟨_, rfl⟩
    have hq1 : q < ms.length + 1 := by rw [hq]; exact Nat.mod_lt _ (by omega)
    have hql : (ms.take q).length = q := by rw [List.length_take]; omega
    have zt := rep_take z q
    have ct := rep_cnt l a _ 0 0 0 false 0 zt
    have cm := rep_cnt l a _ 0 0 0 false 0 z
    rw [hql, Int.zero_add] at ct
    rw [Int.zero_add] at cm
    obtain ⟨K2, h2⟩ := replay_ev l a (ms.take q) (by omega) (by omega)
    have et : replayV l a (ms.take q) = repV l a (ms.take q) 0 0 0 false 0 := by unfold replayV; rw [if_pos v]
    rw [et] at h2
    have hg := rep_gaps l a ms 0 0 0 0 false 0 0 z (Int.le_refl _) (by omega) (Int.le_refl _) (by omega) (fun h => absurd rfl h)
    obtain ⟨K3, h3⟩ := replays_l0 l a ms x _ _ _ _ hl b.1 hm hg (rep_last v z) ms.length 1 (by omega) (Nat.le_refl _)
    obtain ⟨n, hn⟩ : ∃ n, n = K1 + K2 + K3 := ⟨_, rfl⟩
    refine ⟨n + 2, ?_⟩
    have k1 := h1 (n + 1) (by omega)
    have k2 := h2 (n + 1) (by omega)
    have k3 := h3 n (by omega)
    simp only at k1 k2 k3
    have tm : Int.tmod x3 ((ms.length : Int) + 1) = (q : Int) := by
      rw [Int.tmod_eq_emod_of_nonneg r0, hq]
      have := emod_nat x3.toNat (ms.length + 1)
      rw [Int.toNat_of_nonneg r0] at this
      exact this
    have t1 : ¬ (ms.length : Int) + 1 = 0 := by omega
    have t2 : (0 : Int) ≤ (q : Int) := by omega
    have t3 : (q : Int) ≤ (ms.length : Int) := by omega
    have t4 : ((l.length : Int) == 0) = false := beq_eq_false_iff_ne.2 (by omega)
    have w1 : wrap64 ((ms.length : Int) + 1) = (ms.length : Int) + 1 := wr (by omega) (by omega)
    have w2 : wrap64 x3 = x3 := wr (by omega) (by omega)
    unfold observatorylaw24_CadenceReplays.f observatorylaw24_head.f
    rw [Option.bind_some, hF, Option.bind_some, if_pos rfl, hD, observatorylaw24_CadenceReplays.j0, if_neg (by decide), k1, Option.bind_some, if_pos z, w1, if_neg t1, w2, tm, if_pos t2, if_pos t3, Int.toNat_natCast, k2, Option.bind_some, if_pos cm, if_pos zt, if_pos ct, t4, observatorylaw24_CadenceReplays.j1, if_neg (by decide)]
    exact k3
  · have hbad : ∃ j e, replayV l a ms = (0, 0, 0, false, j, e) ∧ e ≠ 0 ∧ 0 ≤ j ∧ j ≤ (ms.length : Int) := by
      by_cases v : VB l a = true
      · have e1 : replayV l a ms = repV l a ms 0 0 0 false 0 := by unfold replayV; rw [if_pos v]
        rw [e1] at z ⊢
        obtain ⟨j, e, q1, q2, q3, q4⟩ := rep_bad l a ms 0 0 0 false 0 z
        exact ⟨j, e, q1, q2, q3, by omega⟩
      · exact ⟨0, 1, by unfold replayV; rw [if_neg v], by decide, Int.le_refl _, by omega⟩
    obtain ⟨j, e, q1, q2, q3, q4⟩ := hbad
    rw [q1] at h1
    refine ⟨K1 + 1, ?_⟩
    have k1 := h1 K1 (Nat.le_refl _)
    simp only at k1
    unfold observatorylaw24_CadenceReplays.f observatorylaw24_head.f
    rw [Option.bind_some, hF, Option.bind_some, if_pos rfl, hD, observatorylaw24_CadenceReplays.j0, if_neg (by decide), k1, Option.bind_some, if_neg q2, if_pos rfl]
    simp [q3, q4]
theorem CadenceReplays_law (l : List S35) (a : Int) (ms : List Int) (x2 x3 : Int) (r0 : 0 ≤ x3) (r1 : x3 ≤ 255) : ∃ k, observatorylaw24_CadenceReplays.f k l a ms x2 x3 = some true := by
  by_cases h : l.length ≤ 50
  · by_cases h2 : ms.length ≤ 200
    · exact replays_pure l a ms x2 x3 h h2 r0 r1
    · refine ⟨1, ?_⟩
      have hF : observatoryref24_Few.f l a = some true := by
        unfold observatoryref24_Few.f
        rw [decide_eq_true (by omega)]
      have hD : decide ((ms.length : Int) > 200) = true := decide_eq_true (by omega)
      unfold observatorylaw24_CadenceReplays.f observatorylaw24_head.f
      rw [Option.bind_some, hF, Option.bind_some, if_pos rfl, hD, observatorylaw24_CadenceReplays.j0, if_pos rfl]
  · refine ⟨1, ?_⟩
    have hF : observatoryref24_Few.f l a = some false := by
      unfold observatoryref24_Few.f
      rw [decide_eq_false (by omega)]
    unfold observatorylaw24_CadenceReplays.f observatorylaw24_head.f
    rw [Option.bind_some, hF, Option.bind_some, if_neg (by decide), observatorylaw24_CadenceReplays.j0, if_pos rfl]
end Go.Proofs.Ytefaemikfihdeaa.Px
