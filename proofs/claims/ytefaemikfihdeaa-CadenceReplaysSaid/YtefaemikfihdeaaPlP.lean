/- What the functions of cadence compute, as plain functions over lists and numbers. -/
import Derived.Test.YtefaemikfihdeaaPxx8
import Derived.Test.YtefaemikfihdeaaPxx11
namespace Go.Proofs.Ytefaemikfihdeaa.Px
open Go.RowKit Go.Proofs.YtefaemikfihdeaaW.PrintWords Go.Proofs.YtefaemikfihdeaaW.PrintLast Go.Proofs.YtefaemikfihdeaaW.PrintMore
set_option linter.unusedVariables false
set_option linter.unusedSimpArgs false

theorem wr {x : Int} (h0 : -9223372036854775808 ≤ x) (h1 : x ≤ 9223372036854775807) : wrap64 x = x := by unfold wrap64; omega
theorem within_f (a b c : Int) : cadence_within.f a b c = some (decide (b ≤ a ∧ a ≤ c)) := by
  unfold cadence_within.f
  by_cases h : b ≤ a <;> simp [h]
def okS (x : S35) : Bool := decide (0 ≤ x.f0 ∧ x.f0 ≤ 7 ∧ 0 ≤ x.f1 ∧ x.f1 ≤ x.f2 ∧ x.f2 ≤ 38399)
def VB (l : List S35) (a : Int) : Bool := decide (1 ≤ l.length ∧ l.length ≤ 40 ∧ 1 ≤ a ∧ a ≤ 100) && l.all okS
theorem rd_drop (l : List S35) (i : Nat) (h : i < l.length) : l.drop i = rd_T35 l (i : Int) :: l.drop (i + 1) := by
  rw [List.drop_eq_getElem_cons h]
  congr 1
  simp [rd_T35, List.getD, h]
theorem all_drop (l : List S35) (i : Nat) (h : i < l.length) : (l.drop i).all okS = (okS (rd_T35 l (i : Int)) && (l.drop (i + 1)).all okS) := by
  rw [rd_drop l i h, List.all_cons]

theorem valid_l0 (l : List S35) (hl : l.length ≤ 140737488351232) : ∀ (d i : Nat), i + d = l.length → Ev (fun k => cadence_Valid.l0 k l (l.length : Int) (i : Int)) ((l.drop i).all okS)
  | 0, i, h => by
    refine Ev.step (f := fun _ => some ((l.drop i).all okS)) (fun k => ?_) (Ev.now _)
    simp only [cadence_Valid.l0]
    rw [if_neg (by omega), List.drop_of_length_le (by omega)]
    rfl
  | d + 1, i, h => by
    have hi : i < l.length := by omega
    have ih := valid_l0 l hl d (i + 1) (by omega)
    rw [all_drop l i hi]
    generalize hx : rd_T35 l (i : Int) = x
    by_cases ok : okS x = true
    · rw [ok, Bool.true_and]
      refine Ev.step (f := fun k => cadence_Valid.l0 k l (l.length : Int) ((i + 1 : Nat) : Int)) (fun k => ?_) ih
      have o := of_decide_eq_true ok
      simp only [cadence_Valid.l0, within_f, Option.bind_some, hx]
      rw [if_pos (by omega), if_pos (by omega), if_pos (by omega), if_pos (decide_eq_true (by omega)), if_pos (decide_eq_true (by omega)), if_neg (by omega), wr (by omega) (by omega)]
      rfl
    · have o : ¬ (0 ≤ x.f0 ∧ x.f0 ≤ 7 ∧ 0 ≤ x.f1 ∧ x.f1 ≤ x.f2 ∧ x.f2 ≤ 38399) := fun h => ok (decide_eq_true h)
      rw [show okS x = false by simpa using ok, Bool.false_and]
      refine Ev.step (f := fun _ => some false) (fun k => ?_) (Ev.now _)
      simp only [cadence_Valid.l0, within_f, Option.bind_some, hx]
      rw [if_pos (by omega), if_pos (by omega), if_pos (by omega)]
      by_cases c1 : 0 ≤ x.f0 ∧ x.f0 ≤ 7
      · rw [if_pos (decide_eq_true c1)]
        by_cases c2 : 0 ≤ x.f1 ∧ x.f1 ≤ x.f2
        · rw [if_pos (decide_eq_true c2), if_pos (by omega)]
        · rw [if_neg (by simpa using c2)]
      · rw [if_neg (by simpa using c1)]
theorem valid_ev (l : List S35) (a : Int) (hl : l.length ≤ 140737488351232) : Ev (fun k => cadence_Valid.f k l a) (VB l a) := by
  obtain ⟨K, h⟩ := valid_l0 l hl l.length 0 (by omega)
  refine ⟨K + 1, fun k hk => ?_⟩
  obtain ⟨m, rfl⟩ : ∃ m, k = m + 1 := ⟨k - 1, by omega⟩
  have h' : cadence_Valid.l0 m l (l.length : Int) 0 = some (l.all okS) := h m (by omega)
  simp only [cadence_Valid.f, within_f, Option.bind_some, cadence_Valid.j0]
  unfold VB
  by_cases c1 : (1 : Int) ≤ l.length ∧ (l.length : Int) ≤ 40
  · rw [if_pos (decide_eq_true c1)]
    by_cases c2 : 1 ≤ a ∧ a ≤ 100
    · rw [if_neg (by simp; omega), h']
      simp [c2, show 1 ≤ l.length by omega, show l.length ≤ 40 by omega]
    · rw [if_pos (by simp; omega)]
      simp [show ¬(1 ≤ l.length ∧ l.length ≤ 40 ∧ 1 ≤ a ∧ a ≤ 100) by omega]
  · rw [if_neg (by simpa using c1)]
    simp [show ¬(1 ≤ l.length ∧ l.length ≤ 40 ∧ 1 ≤ a ∧ a ≤ 100) by omega]
/-- A course is valid. -/
def CP (l : List S35) (a c0 c1 c2 : Int) (c3 : Bool) : Prop := (c0 = 0 ∧ c1 = 0 ∧ c2 = 0 ∧ c3 = false) ∨ (c3 = true ∧ c0 = 0 ∧ c1 = a ∧ 0 ≤ c2 ∧ c2 ≤ 38399) ∨ (c3 = false ∧ 0 ≤ c0 ∧ c0 < l.length ∧ 0 ≤ c1 ∧ c1 < a ∧ 0 ≤ c2 ∧ c2 ≤ 38399 ∧ 0 < c0 + c1)
instance {l a c0 c1 c2 c3} : Decidable (CP l a c0 c1 c2 c3) := by unfold CP; infer_instance
def CB (l : List S35) (a c0 c1 c2 : Int) (c3 : Bool) : Bool := VB l a && decide (CP l a c0 c1 c2 c3)
theorem VB_bd {l : List S35} {a : Int} (h : VB l a = true) : 1 ≤ l.length ∧ l.length ≤ 40 ∧ 1 ≤ a ∧ a ≤ 100 := by
  unfold VB at h
  simp only [Bool.and_eq_true, decide_eq_true_eq] at h
  exact h.1
theorem zero_iff (c0 c1 c2 : Int) (c3 : Bool) : (c0 == 0 && (c1 == 0 && (c2 == 0 && (!c3)))) = true ↔ c0 = 0 ∧ c1 = 0 ∧ c2 = 0 ∧ c3 = false := by simp
theorem cvalid_ev (l : List S35) (a c0 c1 c2 : Int) (c3 : Bool) (hl : l.length ≤ 140737488351232) : Ev (fun k => cadence_valid.f k l a c0 c1 c2 c3) (CB l a c0 c1 c2 c3) := by
  obtain ⟨K, h⟩ := valid_ev l a hl
  refine ⟨K, fun k hk => ?_⟩
  simp only [cadence_valid.f, h k hk, Option.bind_some, within_f]
  unfold CB
  by_cases v : VB l a = true
  · obtain ⟨b1, b2, b3, b4⟩ := VB_bd v
    rw [if_pos v, v, Bool.true_and, wr (x := (l.length : Int) - 1) (by omega) (by omega), wr (x := a - 1) (by omega) (by omega)]
    by_cases z : c0 = 0 ∧ c1 = 0 ∧ c2 = 0 ∧ c3 = false
    · rw [if_pos ((zero_iff _ _ _ _).2 z), decide_eq_true (show CP l a c0 c1 c2 c3 from .inl z)]
    · rw [if_neg (fun h => z ((zero_iff _ _ _ _).1 h))]
      cases c3
      · rw [if_neg (by simp)]
        have z' : ¬(c0 = 0 ∧ c1 = 0 ∧ c2 = 0) := fun h => z ⟨h.1, h.2.1, h.2.2, rfl⟩
        clear z
        by_cases d : 0 ≤ c0 ∧ c0 < l.length ∧ 0 ≤ c1 ∧ c1 < a ∧ 0 ≤ c2 ∧ c2 ≤ 38399
        · rw [if_pos (decide_eq_true (by omega)), if_pos (decide_eq_true (by omega)), if_pos (decide_eq_true (by omega)), wr (x := c0 + c1) (by omega) (by omega)]
          congr 1
          unfold CP
          simp only [decide_eq_decide]
          simp
          omega
        · have : decide (CP l a c0 c1 c2 false) = false := by
            refine decide_eq_false ?_
            unfold CP
            simp
            omega
          rw [this]
          repeat' split
          all_goals first | rfl | (simp only [decide_eq_true_eq] at *; omega)
      · rw [if_pos rfl]
        clear z
        have e : CP l a c0 c1 c2 true ↔ (c0 = 0 ∧ c1 = a ∧ 0 ≤ c2 ∧ c2 ≤ 38399) := by unfold CP; simp
        rw [show decide (CP l a c0 c1 c2 true) = decide (c0 = 0 ∧ c1 = a ∧ 0 ≤ c2 ∧ c2 ≤ 38399) from by simp only [e]]
        repeat' split
        all_goals (congr 1; first | (simp only [decide_eq_decide]; omega) | (refine (decide_eq_false ?_).symm; omega))
  · rw [if_neg v]
    simp [v]
theorem VB_ok {l : List S35} {a i : Int} (h : VB l a = true) (h0 : 0 ≤ i) (h1 : i < l.length) : 0 ≤ (rd_T35 l i).f1 ∧ (rd_T35 l i).f1 ≤ (rd_T35 l i).f2 ∧ (rd_T35 l i).f2 ≤ 38399 := by
  unfold VB at h
  simp only [Bool.and_eq_true] at h
  have ho := List.all_eq_true.mp h.2 (rd_T35 l i) (by
    unfold rd_T35
    rw [List.getD_eq_getElem?_getD, List.getElem?_eq_getElem (by omega : i.toNat < l.length)]
    exact List.getElem_mem _)
  have := of_decide_eq_true ho
  omega
theorem CB_false {l : List S35} {a c0 c1 c2 : Int} (h : CB l a c0 c1 c2 false = true) : VB l a = true ∧ 0 ≤ c0 ∧ c0 < l.length ∧ 0 ≤ c1 ∧ c1 < a ∧ 0 ≤ c2 ∧ c2 ≤ 38399 ∧ (c0 + c1 = 0 → c2 = 0) := by
  unfold CB at h
  simp only [Bool.and_eq_true, decide_eq_true_eq] at h
  obtain ⟨v, c⟩ := h
  have b := VB_bd v
  refine ⟨v, ?_⟩
  unfold CP at c
  simp at c
  omega
def rdyV (l : List S35) (a c0 c1 c2 : Int) (c3 : Bool) (m : Int) : Int :=
  if CB l a c0 c1 c2 c3 = true ∧ 0 ≤ m ∧ m ≤ 38399 then (if c3 = true then 11 else if c0 + c1 = 0 then 0 else if m < c2 + (rd_T35 l c0).f1 then 16 else if c2 + (rd_T35 l c0).f2 < m then 17 else 0) else 1
def advV (l : List S35) (a c0 c1 c2 : Int) (c3 : Bool) (m : Int) : Int × Int × Int × Bool × Int :=
  if rdyV l a c0 c1 c2 c3 m = 0 then (if c0 + 1 = l.length then (0, c1 + 1, m, c1 + 1 == a, 0) else (c0 + 1, c1, m, false, 0)) else (0, 0, 0, false, rdyV l a c0 c1 c2 c3 m)
def winV (l : List S35) (a c0 c1 c2 : Int) (c3 : Bool) : Int × Int × Int :=
  if CB l a c0 c1 c2 c3 = true then (if c3 = true then (0, 0, 11) else if c0 + c1 = 0 then (0, 38399, 0) else if c2 + (rd_T35 l c0).f1 > 38399 then (0, 0, 17) else (c2 + (rd_T35 l c0).f1, mn (c2 + (rd_T35 l c0).f2) 38399, 0)) else (0, 0, 1)
theorem window_f {l : List S35} {a c0 c1 c2 : Int} (h : CB l a c0 c1 c2 false = true) :
    cadence_window.f l a c0 c1 c2 false = some (if c0 + c1 = 0 then (0, 38399) else (c2 + (rd_T35 l c0).f1, mn (c2 + (rd_T35 l c0).f2) 38399)) := by
  obtain ⟨v, h1, h2, h3, h4, h5, h6, h7⟩ := CB_false h
  have b := VB_bd v
  have o := VB_ok v h1 h2
  unfold cadence_window.f
  rw [wr (x := c0 + c1) (by omega) (by omega)]
  by_cases z : c0 + c1 = 0
  · rw [if_pos z, if_pos z]
  · rw [if_neg z, if_neg z, if_pos h1, if_pos h2, wr (x := c2 + (rd_T35 l c0).f1) (by omega) (by omega), wr (x := c2 + (rd_T35 l c0).f2) (by omega) (by omega)]
theorem ready_ev (l : List S35) (a c0 c1 c2 : Int) (c3 : Bool) (m : Int) (hl : l.length ≤ 140737488351232) : Ev (fun k => cadence_Ready.f k l a c0 c1 c2 c3 m) (rdyV l a c0 c1 c2 c3 m) := by
  obtain ⟨K, h⟩ := cvalid_ev l a c0 c1 c2 c3 hl
  refine ⟨K, fun k hk => ?_⟩
  simp only [cadence_Ready.f, h k hk, Option.bind_some]
  unfold rdyV
  by_cases v : CB l a c0 c1 c2 c3 = true
  · rw [if_pos v]
    by_cases hm : 0 ≤ m ∧ m ≤ 38399
    · rw [if_pos hm, if_pos (show CB l a c0 c1 c2 c3 = true ∧ 0 ≤ m ∧ m ≤ 38399 from ⟨v, hm⟩)]
      cases c3
      · rw [window_f v]
        simp only [Option.bind_some, if_neg (show ¬ (false = true) by simp)]
        by_cases z : c0 + c1 = 0
        · rw [if_pos z, if_pos z, if_neg (show ¬ (m < (0, 38399).1) by show ¬ m < 0; omega), if_neg (show ¬ ((0, 38399).2 < m) by show ¬ 38399 < m; omega)]
        · rw [if_neg z, if_neg z]
          simp only
          by_cases e : m < c2 + (rd_T35 l c0).f1
          · rw [if_pos e, if_pos e]
          · rw [if_neg e, if_neg e]
            by_cases e2 : c2 + (rd_T35 l c0).f2 < m
            · rw [if_pos e2, if_pos (by unfold mn; split <;> omega)]
            · rw [if_neg e2, if_neg (by unfold mn; split <;> omega)]
      · rfl
    · rw [if_neg hm, if_neg (show ¬ (CB l a c0 c1 c2 c3 = true ∧ 0 ≤ m ∧ m ≤ 38399) from fun h => hm h.2)]
  · rw [if_neg v, if_neg (show ¬ (CB l a c0 c1 c2 c3 = true ∧ 0 ≤ m ∧ m ≤ 38399) from fun h => v h.1)]
theorem rdy_zero {l : List S35} {a c0 c1 c2 : Int} {c3 : Bool} {m : Int} (h : rdyV l a c0 c1 c2 c3 m = 0) : c3 = false ∧ CB l a c0 c1 c2 false = true ∧ 0 ≤ m ∧ m ≤ 38399 := by
  unfold rdyV at h
  split at h
  · rename_i hc
    cases c3
    · exact ⟨rfl, hc⟩
    · simp at h
  · simp at h
theorem adv_div (n c0 c1 : Int) (h0 : 0 ≤ c0) (h1 : c0 < n) (h2 : 0 ≤ c1) :
    Int.tmod (c1 * n + c0 + 1) n = (if c0 + 1 = n then 0 else c0 + 1) ∧ Int.tdiv (c1 * n + c0 + 1) n = (if c0 + 1 = n then c1 + 1 else c1) := by
  have hp : 0 ≤ c1 * n := Int.mul_nonneg h2 (by omega)
  rw [Int.tmod_eq_emod_of_nonneg (by omega), Int.tdiv_eq_ediv_of_nonneg (by omega)]
  by_cases e : c0 + 1 = n
  · rw [if_pos e, if_pos e, show c1 * n + c0 + 1 = 0 + (c1 + 1) * n from by rw [Int.add_mul]; omega]
    rw [Int.add_mul_emod_self_right, Int.add_mul_ediv_right _ _ (by omega)]
    simp
  · rw [if_neg e, if_neg e, show c1 * n + c0 + 1 = (c0 + 1) + c1 * n from by omega]
    rw [Int.add_mul_emod_self_right, Int.add_mul_ediv_right _ _ (by omega), Int.emod_eq_of_lt (by omega) (by omega), Int.ediv_eq_zero_of_lt (by omega) (by omega)]
    simp
theorem advance_ev (l : List S35) (a c0 c1 c2 : Int) (c3 : Bool) (m : Int) (hl : l.length ≤ 140737488351232) : Ev (fun k => cadence_Advance.f k l a c0 c1 c2 c3 m) (advV l a c0 c1 c2 c3 m) := by
  obtain ⟨K, h⟩ := ready_ev l a c0 c1 c2 c3 m hl
  refine ⟨K, fun k hk => ?_⟩
  simp only [cadence_Advance.f, h k hk, Option.bind_some]
  unfold advV
  by_cases z : rdyV l a c0 c1 c2 c3 m = 0
  · obtain ⟨rfl, hc, _⟩ := rdy_zero z
    obtain ⟨v', h1, h2, h3, h4, h5, h6, h7⟩ := CB_false hc
    have b := VB_bd v'
    rw [if_pos z, if_pos z, if_neg (by omega)]
    have p1 : 0 ≤ c1 * (l.length : Int) := Int.mul_nonneg h3 (by omega)
    have p2 : c1 * (l.length : Int) ≤ 100 * 40 := Int.mul_le_mul (by omega) (by omega) (by omega) (by omega)
    rw [wr (x := c1 * (l.length : Int)) (by omega) (by omega), wr (x := c1 * (l.length : Int) + c0) (by omega) (by omega), wr (x := c1 * (l.length : Int) + c0 + 1) (by omega) (by omega)]
    obtain ⟨d1, d2⟩ := adv_div l.length c0 c1 h1 h2 h3
    rw [d1, d2]
    by_cases e : c0 + 1 = l.length
    · rw [if_pos e, if_pos e, if_pos e, wr (x := c1 + 1) (by omega) (by omega)]
    · rw [if_neg e, if_neg e, if_neg e, wr (x := c1) (by omega) (by omega), show (c1 == a) = false from by simp; omega]
  · rw [if_neg z, if_neg z]
theorem window_ev (l : List S35) (a c0 c1 c2 : Int) (c3 : Bool) (hl : l.length ≤ 140737488351232) : Ev (fun k => cadence_Window.f k l a c0 c1 c2 c3) (winV l a c0 c1 c2 c3) := by
  obtain ⟨K, h⟩ := cvalid_ev l a c0 c1 c2 c3 hl
  refine ⟨K, fun k hk => ?_⟩
  simp only [cadence_Window.f, h k hk, Option.bind_some]
  unfold winV
  by_cases v : CB l a c0 c1 c2 c3 = true
  · rw [if_pos v, if_pos v]
    cases c3
    · rw [window_f v]
      simp only [Option.bind_some, if_neg (show ¬ (false = true) by simp)]
      by_cases z : c0 + c1 = 0
      · rw [if_pos z, if_pos z, if_neg (by show ¬ (0 : Int) > 38399; omega)]
      · rw [if_neg z, if_neg z]
        simp only
        by_cases e : c2 + (rd_T35 l c0).f1 > 38399
        · rw [if_pos e, if_pos e]
        · rw [if_neg e, if_neg e]
    · rfl
  · rw [if_neg v, if_neg v]
/-- The steps taken at some moments, from a course on. -/
def repV (l : List S35) (a : Int) : List Int → Int → Int → Int → Bool → Int → Int × Int × Int × Bool × Int × Int
  | [], c0, c1, c2, c3, i => (c0, c1, c2, c3, i, 0)
  | m :: ms, c0, c1, c2, c3, i => if (advV l a c0 c1 c2 c3 m).2.2.2.2 = 0 then repV l a ms (advV l a c0 c1 c2 c3 m).1 (advV l a c0 c1 c2 c3 m).2.1 (advV l a c0 c1 c2 c3 m).2.2.1 (advV l a c0 c1 c2 c3 m).2.2.2.1 (i + 1) else (0, 0, 0, false, i, (advV l a c0 c1 c2 c3 m).2.2.2.2)
def replayV (l : List S35) (a : Int) (ms : List Int) : Int × Int × Int × Bool × Int × Int := if VB l a = true then repV l a ms 0 0 0 false 0 else (0, 0, 0, false, 0, 1)
theorem rdI_drop (l : List Int) (i : Nat) (h : i < l.length) : l.drop i = rd l (i : Int) :: l.drop (i + 1) := by
  rw [List.drop_eq_getElem_cons h]
  congr 1
  simp [rd, List.getD, h]
theorem replay_l0 (l : List S35) (a : Int) (ms : List Int) (hl : l.length ≤ 140737488351232) (hm : ms.length ≤ 140737488351232) : ∀ (d i : Nat), i + d = ms.length → ∀ c0 c1 c2 c3,
    Ev (fun k => cadence_Replay.l0 k (ms.length : Int) 0 ms (ms.length : Int) (i : Int) l a c0 c1 c2 c3) (repV l a (ms.drop i) c0 c1 c2 c3 (i : Int))
  | 0, i, h, c0, c1, c2, c3 => by
    refine Ev.step (f := fun _ => some _) (fun k => ?_) (Ev.now _)
    simp only [cadence_Replay.l0]
    rw [if_neg (by omega), List.drop_of_length_le (by omega), show (i : Int) = ms.length by omega]
    rfl
  | d + 1, i, h, c0, c1, c2, c3 => by
    have hi : i < ms.length := by omega
    rw [rdI_drop ms i hi]
    refine Ev.step (f := fun k => (cadence_Advance.f k l a c0 c1 c2 c3 (rd ms (i : Int))).bind fun bt => if bt.2.2.2.2 = 0 then cadence_Replay.l0 k (ms.length : Int) 0 ms (ms.length : Int) ((i + 1 : Nat) : Int) l a bt.1 bt.2.1 bt.2.2.1 bt.2.2.2.1 else some (0, 0, 0, false, (i : Int), bt.2.2.2.2)) (fun k => ?_) ?_
    · simp only [cadence_Replay.l0]
      rw [if_pos (by omega), if_pos (by omega), if_pos (by omega), wr (x := (i : Int) + 1) (by omega) (by omega)]
      rfl
    · refine Ev.bind (f := fun k bt => if bt.2.2.2.2 = 0 then cadence_Replay.l0 k (ms.length : Int) 0 ms (ms.length : Int) ((i + 1 : Nat) : Int) l a bt.1 bt.2.1 bt.2.2.1 bt.2.2.2.1 else some (0, 0, 0, false, (i : Int), bt.2.2.2.2)) (advance_ev l a c0 c1 c2 c3 (rd ms (i : Int)) hl) ?_
      simp only [repV]
      by_cases z : (advV l a c0 c1 c2 c3 (rd ms (i : Int))).2.2.2.2 = 0
      · simp only [if_pos z]
        exact replay_l0 l a ms hl hm d (i + 1) (by omega) _ _ _ _
      · simp only [if_neg z]
        exact Ev.now _
theorem replay_ev (l : List S35) (a : Int) (ms : List Int) (hl : l.length ≤ 140737488351232) (hm : ms.length ≤ 140737488351232) : Ev (fun k => cadence_Replay.f k l a ms) (replayV l a ms) := by
  unfold replayV
  refine Ev.bind (f := fun k t => if t = true then (cadence_Replay.l0 k (ms.length : Int) 0 ms (ms.length : Int) 0 l a 0 0 0 false) else (some (0, 0, 0, false, 0, 1))) (valid_ev l a hl) ?_
  by_cases v : VB l a = true
  · simp only [if_pos v]
    exact replay_l0 l a ms hl hm ms.length 0 (by omega) _ _ _ _
  · simp only [if_neg v]
    exact Ev.now _
end Go.Proofs.Ytefaemikfihdeaa.Px
