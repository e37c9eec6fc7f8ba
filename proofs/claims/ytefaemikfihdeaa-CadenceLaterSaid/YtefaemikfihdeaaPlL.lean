/- The plain law CadenceLater. -/
import Derived.Test.YtefaemikfihdeaaPlP
import Derived.Test.YtefaemikfihdeaaPxx16
import Derived.OpenShut
namespace Go.Proofs.Ytefaemikfihdeaa.Px
open Go.RowKit Go.Proofs.YtefaemikfihdeaaW.PrintWords Go.Proofs.YtefaemikfihdeaaW.PrintLast Go.Proofs.YtefaemikfihdeaaW.PrintMore
set_option linter.unusedVariables false
set_option linter.unusedSimpArgs false

/-- Two courses, the second one later. -/
def Lat (by_ c0 c1 c2 c2' : Int) (c3 : Bool) : Prop := (c0 = 0 ∧ c1 = 0 ∧ c2 = 0 ∧ c2' = 0 ∧ c3 = false) ∨ (c2' = c2 + by_ ∧ 0 ≤ c2 ∧ c2 + by_ ≤ 38399 ∧ (c0 ≠ 0 ∨ c1 ≠ 0))
theorem later_rdy {l : List S35} {a by_ c0 c1 c2 c2' : Int} {c3 : Bool} {m : Int} (hb : 0 ≤ by_) (m0 : 0 ≤ m) (m1 : m + by_ ≤ 38399) (h : Lat by_ c0 c1 c2 c2' c3) : rdyV l a c0 c1 c2' c3 (m + by_) = rdyV l a c0 c1 c2 c3 m := by
  rcases h with ⟨rfl, rfl, rfl, rfl, rfl⟩ | ⟨rfl, h1, h2, h3⟩
  · unfold rdyV
    by_cases v : CB l a 0 0 0 false = true
    · rw [if_pos (show CB l a 0 0 0 false = true ∧ 0 ≤ m + by_ ∧ m + by_ ≤ 38399 from ⟨v, by omega, by omega⟩), if_pos (show CB l a 0 0 0 false = true ∧ 0 ≤ m ∧ m ≤ 38399 from ⟨v, by omega, by omega⟩)]
      rfl
    · rw [if_neg (fun h => v h.1), if_neg (fun h => v h.1)]
  · have cb : CB l a c0 c1 (c2 + by_) c3 = CB l a c0 c1 c2 c3 := by
      unfold CB
      congr 1
      rw [Bool.eq_iff_iff]
      simp only [decide_eq_true_eq]
      unfold CP
      cases c3 <;> simp <;> omega
    unfold rdyV
    rw [cb]
    by_cases v : CB l a c0 c1 c2 c3 = true
    · rw [if_pos (show CB l a c0 c1 c2 c3 = true ∧ 0 ≤ m + by_ ∧ m + by_ ≤ 38399 from ⟨v, by omega, by omega⟩), if_pos (show CB l a c0 c1 c2 c3 = true ∧ 0 ≤ m ∧ m ≤ 38399 from ⟨v, by omega, by omega⟩)]
      cases c3
      · obtain ⟨v', i1, i2, i3, i4, i5, i6, i7⟩ := CB_false v
        simp only [if_neg (show ¬ (false = true) by simp)]
        have e0 : ¬ (c0 + c1 = 0) := by omega
        simp only [if_neg e0]
        repeat' split
        all_goals first | rfl | omega
      · rfl
    · rw [if_neg (fun h => v h.1), if_neg (fun h => v h.1)]
theorem later_rep (l : List S35) (a by_ : Int) (hb : 0 ≤ by_) : ∀ (ms : List Int) (c0 c1 c2 c2' : Int) (c3 : Bool) (i : Int), (∀ m ∈ ms, 0 ≤ m ∧ m + by_ ≤ 38399) → Lat by_ c0 c1 c2 c2' c3 →
    ∃ r0 r1 r2 r2' r3 n e, repV l a ms c0 c1 c2 c3 i = (r0, r1, r2, r3, n, e) ∧ repV l a (ms.map (· + by_)) c0 c1 c2' c3 i = (r0, r1, r2', r3, n, e) ∧ (e = 0 → Lat by_ r0 r1 r2 r2' r3) ∧ (e ≠ 0 → r2' = r2) ∧ (e = 0 → ms ≠ [] ∨ c0 ≠ 0 ∨ c1 ≠ 0 → r0 ≠ 0 ∨ r1 ≠ 0) ∧ (ms = [] → r2' = c2' ∧ r2 = c2)
  | [], c0, c1, c2, c2', c3, i, _, h => ⟨c0, c1, c2, c2', c3, i, 0, rfl, rfl, fun _ => h, fun h => absurd rfl h, fun _ h => h.elim (fun h => absurd rfl h) id, fun _ => ⟨rfl, rfl⟩⟩
  | m :: ms, c0, c1, c2, c2', c3, i, hm, h => by
    have hm0 := hm m (by simp)
    have rr := later_rdy (l := l) (a := a) hb hm0.1 hm0.2 h
    simp only [List.map_cons, repV]
    by_cases z : rdyV l a c0 c1 c2 c3 m = 0
    · have z' : rdyV l a c0 c1 c2' c3 (m + by_) = 0 := rr.trans z
      obtain ⟨rfl, hc, m0, m1⟩ := rdy_zero z
      obtain ⟨v', i1, i2, i3, i4, i5, i6, i7⟩ := CB_false hc
      by_cases e : c0 + 1 = (l.length : Int)
      · have ea : advV l a c0 c1 c2 false m = (0, c1 + 1, m, c1 + 1 == a, 0) := by unfold advV; rw [if_pos z, if_pos e]
        have ea' : advV l a c0 c1 c2' false (m + by_) = (0, c1 + 1, m + by_, c1 + 1 == a, 0) := by unfold advV; rw [if_pos z', if_pos e]
        rw [ea, ea']
        simp only [if_true]
        obtain ⟨r0, r1, r2, r2', r3, n, e', q1, q2, q3, q4, q5, q6⟩ := later_rep l a by_ hb ms 0 (c1 + 1) m (m + by_) (c1 + 1 == a) (i + 1) (fun x hx => hm x (by simp [hx])) (.inr ⟨rfl, m0, hm0.2, .inr (by omega)⟩)
        exact ⟨r0, r1, r2, r2', r3, n, e', q1, q2, q3, q4, fun h0 _ => q5 h0 (.inr (.inr (by omega))), fun h => by simp at h⟩
      · have ea : advV l a c0 c1 c2 false m = (c0 + 1, c1, m, false, 0) := by unfold advV; rw [if_pos z, if_neg e]
        have ea' : advV l a c0 c1 c2' false (m + by_) = (c0 + 1, c1, m + by_, false, 0) := by unfold advV; rw [if_pos z', if_neg e]
        rw [ea, ea']
        simp only [if_true]
        obtain ⟨r0, r1, r2, r2', r3, n, e', q1, q2, q3, q4, q5, q6⟩ := later_rep l a by_ hb ms (c0 + 1) c1 m (m + by_) false (i + 1) (fun x hx => hm x (by simp [hx])) (.inr ⟨rfl, m0, hm0.2, .inl (by omega)⟩)
        exact ⟨r0, r1, r2, r2', r3, n, e', q1, q2, q3, q4, fun h0 _ => q5 h0 (.inr (.inl (by omega))), fun h => by simp at h⟩
    · have z' : ¬ rdyV l a c0 c1 c2' c3 (m + by_) = 0 := fun h => z (rr.symm.trans h)
      have ea : advV l a c0 c1 c2 c3 m = (0, 0, 0, false, rdyV l a c0 c1 c2 c3 m) := by unfold advV; rw [if_neg z]
      have ea' : advV l a c0 c1 c2' c3 (m + by_) = (0, 0, 0, false, rdyV l a c0 c1 c2 c3 m) := by unfold advV; rw [if_neg z', rr]
      rw [ea, ea']
      simp only [if_neg z]
      exact ⟨0, 0, 0, 0, false, i, _, rfl, rfl, fun h => absurd h z, fun _ => rfl, fun h => absurd h z, fun h => by simp at h⟩
theorem later_l0 (l : List S35) (a by_ : Int) (ms : List Int) (hl : l.length ≤ 140737488351232) (hm : ms.length ≤ 200) (hb : 0 ≤ by_) (hb1 : by_ ≤ 65535) (hw : ∀ m ∈ ms, -9223372036854775808 ≤ m ∧ m ≤ 9223372036854775807) : ∀ (d i : Nat), i + d = ms.length → (∀ m ∈ ms.take i, 0 ≤ m ∧ m + by_ ≤ 38399) →
    Ev (fun k => observatorylaw24_CadenceLater.l0 k ms by_ true ((ms.take i).map (· + by_)) (i : Int) l a) true
  | 0, i, h, hi => by
    rw [List.take_of_length_le (by omega)] at hi ⊢
    obtain ⟨K1, h1⟩ := replay_ev l a ms hl (by omega)
    obtain ⟨K2, h2⟩ := replay_ev l a (ms.map (· + by_)) hl (by rw [List.length_map]; omega)
    refine ⟨K1 + K2 + 1, fun k hk => ?_⟩
    obtain ⟨n, rfl⟩ : ∃ n, k = n + 1 := ⟨k - 1, by omega⟩
    replace h1 := h1 n (by omega)
    replace h2 := h2 n (by omega)
    simp only at h1 h2
    simp only [observatorylaw24_CadenceLater.l0]
    rw [if_neg (by omega), h1, h2]
    simp only [Option.bind_some]
    unfold replayV
    by_cases v : VB l a = true
    · simp only [if_pos v]
      obtain ⟨s0, s1, s2, s2', s3, n', e', q1, q2, q3, q4, q5, q6⟩ := later_rep l a by_ hb ms 0 0 0 0 false 0 hi (.inl ⟨rfl, rfl, rfl, rfl, rfl⟩)
      rw [q1, q2]
      simp only
      rw [wr (x := by_) (by omega) (by omega)]
      by_cases e0 : e' = 0
      · subst e0
        by_cases hp : (ms.length : Int) > 0
        · have hne : ms ≠ [] := fun h => by rw [h] at hp; simp at hp
          rw [if_pos rfl, if_pos hp]
          have := q5 rfl (.inl hne)
          have q := q3 rfl
          rcases q with q | q
          · omega
          · rw [wr (x := s2 + by_) (by omega) (by omega), q.1]
            simp
        · have hnil : ms = [] := List.eq_nil_of_length_eq_zero (by omega)
          rw [if_pos rfl, if_neg hp, (q6 hnil).1, (q6 hnil).2]
          simp
      · rw [if_neg e0, q4 e0]
        simp
    · simp only [if_neg v]
      simp
  | d + 1, i, h, hi => by
    have hlt : i < ms.length := by omega
    obtain ⟨x, hx⟩ : ∃ x, x = rd ms (i : Int) := ⟨_, rfl⟩
    have hmem : x ∈ ms := by
      rw [hx]
      unfold rd
      rw [List.getD_eq_getElem?_getD, List.getElem?_eq_getElem (by simpa using hlt)]
      exact List.getElem_mem _
    have xb := hw x hmem
    by_cases c : 0 ≤ x ∧ x + by_ ≤ 38399
    · have ht : ms.take (i + 1) = ms.take i ++ [x] := by
        rw [List.take_succ_eq_append_getElem hlt, hx]
        simp [rd, List.getD, hlt]
      refine Ev.step (f := fun k => observatorylaw24_CadenceLater.l0 k ms by_ true ((ms.take (i + 1)).map (· + by_)) ((i + 1 : Nat) : Int) l a) (fun k => ?_) (later_l0 l a by_ ms hl hm hb hb1 hw d (i + 1) (by omega) ?_)
      · simp only [observatorylaw24_CadenceLater.l0, ← hx]
        rw [if_pos (by omega), if_pos (by omega), if_neg (by omega), wr (x := by_) (by omega) (by omega), wr (x := 38399 - by_) (by omega) (by omega), if_neg (by omega), if_pos (by rw [List.length_map, List.length_take]; omega), wr (x := x + by_) (by omega) (by omega), wr (x := (i : Int) + 1) (by omega) (by omega), ht, List.map_append]
        rfl
      · rw [ht]
        intro m hm'
        rcases List.mem_append.mp hm' with h' | h'
        · exact hi m h'
        · obtain rfl : m = x := by simpa using h'
          exact c
    · refine Ev.step (f := fun _ => some true) (fun k => ?_) (Ev.now _)
      simp only [observatorylaw24_CadenceLater.l0, ← hx]
      rw [if_pos (by omega), if_pos (by omega), wr (x := by_) (by omega) (by omega), wr (x := 38399 - by_) (by omega) (by omega)]
      by_cases c1 : x < 0
      · rw [if_pos c1]
      · rw [if_neg c1, if_pos (by omega)]
theorem later_pure (l : List S35) (a : Int) (ms : List Int) (by_ : Int) (hl : l.length ≤ 140737488351232) (hm : ms.length ≤ 140737488351232) (hb : 0 ≤ by_) (hb1 : by_ ≤ 65535) (hw : ∀ m ∈ ms, -9223372036854775808 ≤ m ∧ m ≤ 9223372036854775807) :
    ∃ k, observatorylaw24_CadenceLater.f k l a ms by_ = some true := by
  by_cases hc : ms.length ≤ 200
  · obtain ⟨K, h⟩ := later_l0 l a by_ ms hl hc hb hb1 hw ms.length 0 (by omega) (by simp)
    refine ⟨K + 1, ?_⟩
    have h' : observatorylaw24_CadenceLater.l0 K ms by_ true [] 0 l a = some true := h K (by omega)
    simp only [observatorylaw24_CadenceLater.f, observatorylaw24_head.f, observatoryref24_Few.f, Option.bind_some, observatorylaw24_CadenceLater.j0, h']
    repeat' split
    all_goals rfl
  · refine ⟨1, ?_⟩
    have hd : decide ((ms.length : Int) > 200) = true := decide_eq_true (by omega)
    have e : observatorylaw24_CadenceLater.j0 1 ms by_ true true l a = some true := by simp [observatorylaw24_CadenceLater.j0]
    simp only [observatorylaw24_CadenceLater.f, observatorylaw24_head.f, observatoryref24_Few.f, Option.bind_some, hd]
    split <;> exact e

theorem few_no {l : List S35} {a : Int} (h : ¬ l.length ≤ 50) : observatoryref24_Few.f l a = some false := by
  unfold observatoryref24_Few.f
  rw [decide_eq_false (by omega)]
theorem few_yes {l : List S35} {a : Int} (h : l.length ≤ 50) : observatoryref24_Few.f l a = some true := by
  unfold observatoryref24_Few.f
  rw [decide_eq_true (by omega)]
theorem CadenceLater_law (l : List S35) (a : Int) (ms : List Int) (x2 : Int) (r2 : 0 ≤ x2) (r3 : x2 ≤ 65535) (hw : ∀ m ∈ ms, (Lit.int .i64 m).wf = true) : ∃ k, observatorylaw24_CadenceLater.f k l a ms x2 = some true := by
  by_cases h : l.length ≤ 50
  · by_cases h2 : ms.length ≤ 200
    · exact later_pure l a ms x2 (by omega) (by omega) r2 r3 (fun m hm => bounds_i64 (hw m hm))
    · refine ⟨1, ?_⟩
      have hd : decide ((ms.length : Int) > 200) = true := decide_eq_true (by omega)
      simp only [observatorylaw24_CadenceLater.f, observatorylaw24_head.f, few_yes h, Option.bind_some, hd, observatorylaw24_CadenceLater.j0, if_true]
  · refine ⟨1, ?_⟩
    simp only [observatorylaw24_CadenceLater.f, observatorylaw24_head.f, few_no h, Option.bind_some]
    rfl

end Go.Proofs.Ytefaemikfihdeaa.Px
