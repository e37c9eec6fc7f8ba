/- What the functions of the reference compute: the same plain functions. -/
import Derived.Test.YtefaemikfihdeaaPlP
import Derived.Test.YtefaemikfihdeaaPxx22
import Derived.Test.YtefaemikfihdeaaPxx23
namespace Go.Proofs.Ytefaemikfihdeaa.Px
open Go.RowKit Go.Proofs.YtefaemikfihdeaaW.PrintWords Go.Proofs.YtefaemikfihdeaaW.PrintLast Go.Proofs.YtefaemikfihdeaaW.PrintMore
set_option linter.unusedVariables false
set_option linter.unusedSimpArgs false

theorem is_f (a : Int) : observatoryref09_Is.f a = some (decide (0 ≤ a ∧ a ≤ 38399)) := by
  unfold observatoryref09_Is.f
  by_cases h : 0 ≤ a <;> simp [h]
theorem rvalid_l0 (l : List S35) (a : Int) (hl : l.length ≤ 140737488351232) : ∀ (d i : Nat), i + d = l.length → Ev (fun k => observatoryref24_Valid.l0 k (i : Int) l a) ((l.drop i).all okS)
  | 0, i, h => by
    refine Ev.step (f := fun _ => some ((l.drop i).all okS)) (fun k => ?_) (Ev.now _)
    simp only [observatoryref24_Valid.l0]
    rw [if_neg (by omega), List.drop_of_length_le (by omega)]
    rfl
  | d + 1, i, h => by
    have hi : i < l.length := by omega
    have ih := rvalid_l0 l a hl d (i + 1) (by omega)
    rw [all_drop l i hi]
    generalize hx : rd_T35 l (i : Int) = x
    by_cases ok : okS x = true
    · rw [ok, Bool.true_and]
      refine Ev.step (f := fun k => observatoryref24_Valid.l0 k ((i + 1 : Nat) : Int) l a) (fun k => ?_) ih
      have o := of_decide_eq_true ok
      simp only [observatoryref24_Valid.l0, hx]
      rw [if_pos (by omega), if_pos (by omega), if_neg (by omega), if_neg (by omega), if_neg (by omega), if_neg (by omega), if_neg (by omega), wr (by omega) (by omega)]
      rfl
    · have o : ¬ (0 ≤ x.f0 ∧ x.f0 ≤ 7 ∧ 0 ≤ x.f1 ∧ x.f1 ≤ x.f2 ∧ x.f2 ≤ 38399) := fun h => ok (decide_eq_true h)
      rw [show okS x = false by simpa using ok, Bool.false_and]
      refine Ev.step (f := fun _ => some false) (fun k => ?_) (Ev.now _)
      simp only [observatoryref24_Valid.l0, hx]
      rw [if_pos (by omega), if_pos (by omega)]
      repeat' split
      all_goals first | rfl | omega
theorem rvalid_ev (l : List S35) (a : Int) (hl : l.length ≤ 140737488351232) : Ev (fun k => observatoryref24_Valid.f k l a) (VB l a) := by
  obtain ⟨K, h⟩ := rvalid_l0 l a hl l.length 0 (by omega)
  refine ⟨K + 1, fun k hk => ?_⟩
  obtain ⟨m, rfl⟩ : ∃ m, k = m + 1 := ⟨k - 1, by omega⟩
  have h' : observatoryref24_Valid.l0 m 0 l a = some (l.all okS) := h m (by omega)
  simp only [observatoryref24_Valid.f, observatoryref24_Valid.j0, h', if_true]
  unfold VB
  by_cases c : 1 ≤ l.length ∧ l.length ≤ 40 ∧ 1 ≤ a ∧ a ≤ 100
  · rw [if_neg (by omega), if_neg (by omega), if_neg (by omega), if_neg (by simp; omega)]
    simp [c]
  · rw [show decide (1 ≤ l.length ∧ l.length ≤ 40 ∧ 1 ≤ a ∧ a ≤ 100) = false from decide_eq_false c, Bool.false_and]
    repeat' split
    all_goals first | rfl | (simp only [decide_eq_true_eq] at *; omega)

theorem rcourse_ev (l : List S35) (a c0 c1 c2 : Int) (c3 : Bool) (hl : l.length ≤ 140737488351232) : Ev (fun k => observatoryref24_Course.f k l a c0 c1 c2 c3) (CB l a c0 c1 c2 c3) := by
  obtain ⟨K, h⟩ := rvalid_ev l a hl
  refine ⟨K, fun k hk => ?_⟩
  simp only [observatoryref24_Course.f, h k hk, Option.bind_some, is_f]
  unfold CB
  by_cases v : VB l a = true
  · obtain ⟨b1, b2, b3, b4⟩ := VB_bd v
    rw [if_pos v, v, Bool.true_and]
    by_cases z : c0 = 0 ∧ c1 = 0 ∧ c2 = 0 ∧ c3 = false
    · rw [if_pos ((zero_iff _ _ _ _).2 z), decide_eq_true (show CP l a c0 c1 c2 c3 from .inl z)]
    · rw [if_neg (fun h => z ((zero_iff _ _ _ _).1 h))]
      cases c3
      · have z' : ¬(c0 = 0 ∧ c1 = 0 ∧ c2 = 0) := fun h => z ⟨h.1, h.2.1, h.2.2, rfl⟩
        clear z
        have e : CP l a c0 c1 c2 false ↔ (0 ≤ c0 ∧ c0 < l.length ∧ 0 ≤ c1 ∧ c1 < a ∧ 0 ≤ c2 ∧ c2 ≤ 38399 ∧ 0 < c0 + c1) := by unfold CP; simp; omega
        rw [show decide (CP l a c0 c1 c2 false) = decide (0 ≤ c0 ∧ c0 < l.length ∧ 0 ≤ c1 ∧ c1 < a ∧ 0 ≤ c2 ∧ c2 ≤ 38399 ∧ 0 < c0 + c1) from by simp only [e]]
        simp only [decide_eq_true_eq]
        repeat' split
        all_goals first | (exfalso; simp at *; done) | (congr 1; first | (refine (decide_eq_true ?_).symm; omega) | (refine (decide_eq_false ?_).symm; omega) | (simp only [decide_eq_decide]; omega))
      · clear z
        have e : CP l a c0 c1 c2 true ↔ (c0 = 0 ∧ c1 = a ∧ 0 ≤ c2 ∧ c2 ≤ 38399) := by unfold CP; simp
        rw [show decide (CP l a c0 c1 c2 true) = decide (c0 = 0 ∧ c1 = a ∧ 0 ≤ c2 ∧ c2 ≤ 38399) from by simp only [e]]
        simp only [decide_eq_true_eq]
        repeat' split
        all_goals first | (exfalso; simp at *; done) | (congr 1; first | (refine (decide_eq_true ?_).symm; omega) | (refine (decide_eq_false ?_).symm; omega) | (rw [Bool.eq_iff_iff]; simp only [beq_iff_eq, decide_eq_true_eq]; omega))
  · rw [if_neg v]
    simp [v]

theorem rready_ev (l : List S35) (a c0 c1 c2 : Int) (c3 : Bool) (m : Int) (hl : l.length ≤ 140737488351232) : Ev (fun k => observatoryref24_Ready.f k l a c0 c1 c2 c3 m) (rdyV l a c0 c1 c2 c3 m) := by
  obtain ⟨K, h⟩ := rcourse_ev l a c0 c1 c2 c3 hl
  refine ⟨K + 2, fun k hk => ?_⟩
  obtain ⟨n, rfl⟩ : ∃ n, k = n + 2 := ⟨k - 2, by omega⟩
  simp only [observatoryref24_Ready.f, h (n + 2) (by omega), Option.bind_some, is_f, observatoryref24_Ready.j0, observatoryref24_Ready.j1]
  unfold rdyV
  by_cases v : CB l a c0 c1 c2 c3 = true
  · rw [if_pos v]
    by_cases hm : 0 ≤ m ∧ m ≤ 38399
    · rw [if_neg (by simp; omega), if_pos (show CB l a c0 c1 c2 c3 = true ∧ 0 ≤ m ∧ m ≤ 38399 from ⟨v, hm⟩)]
      cases c3
      · obtain ⟨v', h1, h2, h3, h4, h5, h6, h7⟩ := CB_false v
        have b := VB_bd v'
        have o := VB_ok v' h1 h2
        simp only [if_neg (show ¬ (false = true) by simp)]
        by_cases z : c0 + c1 = 0
        · rw [if_pos z, if_pos (show c0 = 0 by omega), if_pos (by simp; omega)]
        · have e : ∀ (A B : Option Int), A = B → (if c0 = 0 then (if (c1 == 0) = true then some 0 else A) else B) = B := by
            intro A B e
            by_cases c : c0 = 0
            · rw [if_pos c, if_neg (by simp; omega), e]
            · rw [if_neg c]
          rw [e _ _ rfl, if_pos h1, if_pos h2, wr (x := c2 + (rd_T35 l c0).f1) (by omega) (by omega), wr (x := c2 + (rd_T35 l c0).f2) (by omega) (by omega), if_neg z]
          repeat' split
          all_goals first | rfl | omega
      · rfl
    · rw [if_pos (by simp; omega), if_neg (show ¬ (CB l a c0 c1 c2 c3 = true ∧ 0 ≤ m ∧ m ≤ 38399) from fun h => hm h.2)]
  · rw [if_neg v, if_neg (show ¬ (CB l a c0 c1 c2 c3 = true ∧ 0 ≤ m ∧ m ≤ 38399) from fun h => v h.1)]
    rfl
theorem radvance_ev (l : List S35) (a c0 c1 c2 : Int) (c3 : Bool) (m : Int) (hl : l.length ≤ 140737488351232) : Ev (fun k => observatoryref24_Advance.f k l a c0 c1 c2 c3 m) (advV l a c0 c1 c2 c3 m) := by
  obtain ⟨K, h⟩ := rready_ev l a c0 c1 c2 c3 m hl
  refine ⟨K, fun k hk => ?_⟩
  simp only [observatoryref24_Advance.f, h k hk, Option.bind_some]
  unfold advV
  by_cases z : rdyV l a c0 c1 c2 c3 m = 0
  · obtain ⟨rfl, hc, _⟩ := rdy_zero z
    obtain ⟨v', h1, h2, h3, h4, h5, h6, h7⟩ := CB_false hc
    have b := VB_bd v'
    rw [if_pos z, if_pos z, wr (x := c0 + 1) (by omega) (by omega), wr (x := c1 + 1) (by omega) (by omega)]
    by_cases e : c0 + 1 = l.length
    · rw [if_pos e, if_pos e]
    · rw [if_neg e, if_neg e]
  · rw [if_neg z, if_neg z]
theorem rwindow_ev (l : List S35) (a c0 c1 c2 : Int) (c3 : Bool) (hl : l.length ≤ 140737488351232) : Ev (fun k => observatoryref24_Window.f k l a c0 c1 c2 c3) (winV l a c0 c1 c2 c3) := by
  obtain ⟨K, h⟩ := rcourse_ev l a c0 c1 c2 c3 hl
  refine ⟨K + 1, fun k hk => ?_⟩
  obtain ⟨n, rfl⟩ : ∃ n, k = n + 1 := ⟨k - 1, by omega⟩
  simp only [observatoryref24_Window.f, h (n + 1) (by omega), Option.bind_some, observatoryref24_Window.j0]
  unfold winV
  by_cases v : CB l a c0 c1 c2 c3 = true
  · rw [if_pos v, if_pos v]
    cases c3
    · obtain ⟨v', h1, h2, h3, h4, h5, h6, h7⟩ := CB_false v
      have b := VB_bd v'
      have o := VB_ok v' h1 h2
      simp only [if_neg (show ¬ (false = true) by simp)]
      by_cases z : c0 + c1 = 0
      · rw [if_pos z, if_pos (show c0 = 0 by omega), if_pos (by simp; omega)]
      · have e : ∀ (A B : Option (Int × Int × Int)), A = B → (if c0 = 0 then (if (c1 == 0) = true then some (0, 38399, 0) else A) else B) = B := by
          intro A B e
          by_cases c : c0 = 0
          · rw [if_pos c, if_neg (by simp; omega), e]
          · rw [if_neg c]
        rw [e _ _ rfl, if_pos h1, if_pos h2, wr (x := c2 + (rd_T35 l c0).f1) (by omega) (by omega), wr (x := c2 + (rd_T35 l c0).f2) (by omega) (by omega), if_neg z]
        repeat' split
        all_goals first | rfl | omega
    · rfl
  · rw [if_neg v, if_neg v]
theorem rreplay_l0 (l : List S35) (a : Int) (ms : List Int) (hl : l.length ≤ 140737488351232) (hm : ms.length ≤ 140737488351232) : ∀ (d i : Nat), i + d = ms.length → ∀ c0 c1 c2 c3,
    Ev (fun k => observatoryref24_Replay.l0 k ms (i : Int) l a c0 c1 c2 c3) (repV l a (ms.drop i) c0 c1 c2 c3 (i : Int))
  | 0, i, h, c0, c1, c2, c3 => by
    refine Ev.step (f := fun _ => some _) (fun k => ?_) (Ev.now _)
    simp only [observatoryref24_Replay.l0]
    rw [if_neg (by omega), List.drop_of_length_le (by omega), show (i : Int) = ms.length by omega]
    rfl
  | d + 1, i, h, c0, c1, c2, c3 => by
    have hi : i < ms.length := by omega
    rw [rdI_drop ms i hi]
    refine Ev.step (f := fun k => (observatoryref24_Advance.f k l a c0 c1 c2 c3 (rd ms (i : Int))).bind fun bt => if bt.2.2.2.2 = 0 then observatoryref24_Replay.l0 k ms ((i + 1 : Nat) : Int) l a bt.1 bt.2.1 bt.2.2.1 bt.2.2.2.1 else some (0, 0, 0, false, (i : Int), bt.2.2.2.2)) (fun k => ?_) ?_
    · simp only [observatoryref24_Replay.l0]
      rw [if_pos (by omega), if_pos (by omega), wr (x := (i : Int) + 1) (by omega) (by omega)]
      rfl
    · refine Ev.bind (f := fun k bt => if bt.2.2.2.2 = 0 then observatoryref24_Replay.l0 k ms ((i + 1 : Nat) : Int) l a bt.1 bt.2.1 bt.2.2.1 bt.2.2.2.1 else some (0, 0, 0, false, (i : Int), bt.2.2.2.2)) (radvance_ev l a c0 c1 c2 c3 (rd ms (i : Int)) hl) ?_
      simp only [repV]
      by_cases z : (advV l a c0 c1 c2 c3 (rd ms (i : Int))).2.2.2.2 = 0
      · simp only [if_pos z]
        exact rreplay_l0 l a ms hl hm d (i + 1) (by omega) _ _ _ _
      · simp only [if_neg z]
        exact Ev.now _
theorem rreplay_ev (l : List S35) (a : Int) (ms : List Int) (hl : l.length ≤ 140737488351232) (hm : ms.length ≤ 140737488351232) : Ev (fun k => observatoryref24_Replay.f k l a ms) (replayV l a ms) := by
  unfold replayV
  refine Ev.bind (f := fun k t => if t = true then (observatoryref24_Replay.l0 k ms 0 l a 0 0 0 false) else (some (0, 0, 0, false, 0, 1))) (rvalid_ev l a hl) ?_
  by_cases v : VB l a = true
  · simp only [if_pos v]
    exact rreplay_l0 l a ms hl hm ms.length 0 (by omega) _ _ _ _
  · simp only [if_neg v]
    exact Ev.now _

end Go.Proofs.Ytefaemikfihdeaa.Px
