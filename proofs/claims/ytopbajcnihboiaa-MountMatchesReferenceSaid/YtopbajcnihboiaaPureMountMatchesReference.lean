/- The law MountMatchesReference in plain Lean. -/
import Derived.Test.YtopbajcnihboiaaPlG
import Derived.Test.YtopbajcnihboiaaPxx16
import Derived.OpenShut
namespace Go.Proofs.Ytopbajcnihboiaa.Px
open Go.RowKit Go.Proofs.YtopbajcnihboiaaW.PrintWords Go.Proofs.YtopbajcnihboiaaW.PrintLast Go.Proofs.YtopbajcnihboiaaW.PrintMore
set_option linter.unusedVariables false
set_option linter.unusedSimpArgs false
theorem mreach_evk {c : Int} (hc : 0 ≤ c ∧ c ≤ 31) : ∀ d : Nat, mount_Reach.f (6 + d) c = some (reachV c, 0)
  | 0 => reach_ev c hc.1 hc.2
  | d + 1 => mount_Reach.mono c (6 + d) _ (mreach_evk hc d)
theorem mreach_no {c : Int} (h : ¬ (0 ≤ c ∧ c ≤ 31)) (k : Nat) : mount_Reach.f k c = some ([], 1) := by
  have hb : colB c = false := decide_eq_false h
  unfold mount_Reach.f
  rw [mcol_ev, hb, Option.bind_some, if_neg (by decide)]
theorem ints_self (l : List Int) (hl : l.length ≤ 1000) : ∀ (d i : Nat), i + d = l.length → ∀ k, d < k → observatoryref13_Ints.l0 k l l (i : Int) = some true
  | d, i, h, 0, hk => by omega
  | 0, i, h, k + 1, hk => by
    have q : ¬ (i : Int) < (l.length : Int) := by omega
    rw [observatoryref13_Ints.l0, if_neg q]
  | d + 1, i, h, k + 1, hk => by
    have q : (i : Int) < (l.length : Int) := by omega
    have q0 : (0 : Int) ≤ (i : Int) := by omega
    have hi : i ≤ 1000 := by omega
    rw [observatoryref13_Ints.l0, if_pos q, if_pos q0, if_pos q, if_pos rfl, w_succ hi]
    exact ints_self l hl d (i + 1) (by omega) k (by omega)
theorem ints_ev {l : List Int} (hl : l.length ≤ 1000) {k : Nat} (hk : 1001 ≤ k) : observatoryref13_Ints.f k l l = some true := by
  unfold observatoryref13_Ints.f
  rw [if_pos rfl]
  exact ints_self l hl l.length 0 (by omega) k (by omega)
theorem rmove_l0 {a c : Int} (ha : In48 a) (hc : 0 ≤ c ∧ c ≤ 31) : ∀ (d q b : Nat), q + d = (reachV c).length → Best (reachV c) (fun p => dst a p + V [] p) b q → ∀ k, d < k → observatoryref13_Move.l0 k a (reachV c) (rd (reachV c) (b : Int)) (q : Int) = mount_Move.f a c
  | d, q, b, hd, hb, 0, hk => by omega
  | d, q, b, hd, hb, k + 1, hk => by
    have hcs : Cols [c] := fun x hx => by rcases List.mem_cons.1 hx with rfl | h; exact hc; cases h
    have h48 : ∀ p ∈ reachV c, In48 p := fun p hp => reach_in hc hp
    have hbq := hb.1
    have hbA : b < (reachV c).length := by omega
    have hpb := h48 _ (rd_mem hbA)
    rw [observatoryref13_Move.l0]
    by_cases hq : q < (reachV c).length
    · have q0 : (0 : Int) ≤ (q : Int) := by omega
      have q1 : (q : Int) < ((reachV c).length : Int) := by omega
      have hpq := h48 _ (rd_mem hq)
      have hl4 := reachV_len c
      have hq1000 : q ≤ 1000 := by omega
      have hk' : d - 1 < k := by omega
      have hd' : q + 1 + (d - 1) = (reachV c).length := by omega
      have v1 := V_nil hpq
      have v2 := V_nil hpb
      rw [if_pos q1, if_pos q0, rdist_ev ha hpq, Option.bind_some, rdist_ev ha hpb, Option.bind_some, w_succ hq1000]
      by_cases e : dst a (rd (reachV c) (q : Int)) < dst a (rd (reachV c) (b : Int))
      · rw [if_pos e]
        exact rmove_l0 ha hc (d - 1) (q + 1) q hd' (hb.hit (by show _ + V [] _ < _ + V [] _; rw [v1, v2]; omega)) k hk'
      · rw [if_neg e]
        exact rmove_l0 ha hc (d - 1) (q + 1) b hd' (hb.miss (by show ¬ (_ + V [] _ < _ + V [] _); rw [v1, v2]; omega)) k hk'
    · have q1 : ¬ (q : Int) < ((reachV c).length : Int) := by omega
      have hqe : q = (reachV c).length := by omega
      rw [hqe] at hb
      obtain ⟨k1, k2⟩ := best_path (Nat.zero_le _) hcs ha hb
      obtain ⟨p, hp, hpath, hv, hm⟩ := move_ev ha hc
      rw [hpath] at k1
      obtain ⟨rfl, _⟩ := List.cons.inj k1
      rw [if_neg q1, rdist_ev ha hpb, Option.bind_some, hm]
theorem rmove_ev (a c : Int) {k : Nat} (hk : 300 ≤ k) : observatoryref13_Move.f k a c = mount_Move.f a c := by
  have hI : observatoryref13_Is.f a = some (inB a) := by
    unfold observatoryref13_Is.f inB
    by_cases h : a ≥ -48
    · rw [if_pos h]
      congr 1
      rw [decide_eq_decide]
      omega
    · rw [if_neg h, decide_eq_false (by omega)]
  obtain ⟨d, rfl⟩ : ∃ d, k = 200 + d + 0 := ⟨k - 200, by omega⟩
  unfold observatoryref13_Move.f
  rw [Nat.add_zero]
  by_cases hc : 0 ≤ c ∧ c ≤ 31
  · rw [rreach_ev hc d, Option.bind_some, if_pos rfl, hI, Option.bind_some]
    obtain ⟨m, hm⟩ : ∃ m, 200 + d = m + 1 := ⟨199 + d, by omega⟩
    rw [hm, observatoryref13_Move.j0]
    by_cases hb : inB a = true
    · have ha : In48 a := of_decide_eq_true (p := -48 ≤ a ∧ a ≤ 48) hb
      have h3 := reach_pos3 c
      have h0 : 0 < ((reachV c).length : Int) := by omega
      rw [hb, if_neg (by decide), if_pos h0]
      exact rmove_l0 ha hc ((reachV c).length - 1) 1 0 (by omega) ⟨Nat.lt_succ_self 0, fun s hs => by rw [show s = 0 by omega]; exact Int.le_refl _, fun s hs => by omega⟩ m (by have := reachV_len c; omega)
    · have hb' := Bool.eq_false_iff.mpr hb
      rw [hb', if_pos (by decide)]
      unfold mount_Move.f mount_Plan.f planV
      rw [hb', Bool.false_and, Bool.false_and]
      rfl
  · obtain ⟨m, hm⟩ : ∃ m, 200 + d = m + 1 := ⟨199 + d, by omega⟩
    rw [hm, rreach_no hc m, Option.bind_some, if_neg (by decide), observatoryref13_Move.j0, if_pos rfl]
    have hall : [c].all colB = false := by
      have hb : colB c = false := decide_eq_false hc
      simp [hb]
    unfold mount_Move.f mount_Plan.f planV
    rw [hall, Bool.and_false]
    rfl
theorem plan_len (a : Int) (l : List Int) : (planV a l).1.length ≤ 1000 := by
  unfold planV
  by_cases h : (inB a && decide (l.length ≤ 40) && l.all colB) = true
  · rw [if_pos h]
    rw [Bool.and_eq_true, Bool.and_eq_true] at h
    obtain ⟨⟨h1, h2⟩, h3⟩ := h
    have h2' := of_decide_eq_true h2
    have hc : Cols l := fun c hx => of_decide_eq_true (List.all_eq_true.1 h3 c hx)
    have ha : In48 a := of_decide_eq_true (p := -48 ≤ a ∧ a ≤ 48) h1
    have e := path_len l a (by omega) hc ha
    show (pathV a l).length ≤ 1000
    omega
  · rw [if_neg h]
    exact Nat.zero_le _
end Go.Proofs.Ytopbajcnihboiaa.Px
namespace Go.Proofs.Ytopbajcnihboiaa.Pure
open Go.RowKit Go.Proofs.Ytopbajcnihboiaa.Px Go.Proofs.YtopbajcnihboiaaW.PrintWords Go.Proofs.YtopbajcnihboiaaW.PrintLast
theorem mount_some (a c : Int) : ∃ x y z, mount_Move.f a c = some (x, y, z) := by
  unfold mount_Move.f mount_Plan.f
  rw [Option.bind_some]
  by_cases h : (planV a [c]).2.2 = 0
  · have h0 : (inB a && decide ([c].length ≤ 40) && [c].all colB) = true := by
      cases e : (inB a && decide ([c].length ≤ 40) && [c].all colB) with
      | true => rfl
      | false =>
        unfold planV at h
        rw [e, if_neg (by decide)] at h
        exact absurd h (by decide)
    rw [Bool.and_eq_true, Bool.and_eq_true] at h0
    obtain ⟨⟨h1, h2⟩, h3⟩ := h0
    have ha : In48 a := of_decide_eq_true (p := -48 ≤ a ∧ a ≤ 48) h1
    have hc : 0 ≤ c ∧ c ≤ 31 := of_decide_eq_true (List.all_eq_true.1 h3 c List.mem_cons_self)
    obtain ⟨p, _, _, _, hm⟩ := move_ev ha hc
    exact ⟨_, _, _, hm⟩
  · rw [if_neg h]
    exact ⟨_, _, _, rfl⟩
theorem MountMatchesReference : observatorylaw13_MountMatchesReference.Pure := by
  intro a0 a1 l2 w0 w1 hl hl8 hw
  refine ⟨1206, ?_⟩
  have hh : observatorylaw13_head.f = some true := rfl
  unfold observatorylaw13_MountMatchesReference.f
  rw [hh, Option.bind_some]
  by_cases h60 : (l2.length : Int) > 60
  · rw [if_pos h60]
  · rw [if_neg h60]
    have hr : ∃ xs e, mount_Reach.f 1206 a1 = some (xs, e) ∧ observatoryref13_Reach.f 1206 a1 = some (xs, e) ∧ xs.length ≤ 1000 := by
      by_cases hc : 0 ≤ a1 ∧ a1 ≤ 31
      · exact ⟨_, _, mreach_evk hc 1200, rreach_ev hc 1006, by have := reachV_len a1; omega⟩
      · exact ⟨_, _, mreach_no hc _, rreach_no hc 1205, Nat.zero_le _⟩
    obtain ⟨xs, e, h1, h2, h3⟩ := hr
    obtain ⟨x, y, z, h4⟩ := mount_some a0 a1
    have h5 := rmove_ev a0 a1 (k := 1206) (by decide)
    rw [h4] at h5
    have h6 : mount_Plan.f a0 l2 = some (planV a0 l2) := rfl
    have h7 : observatoryref13_Plan.f a0 l2 = some (planV a0 l2) := rfl
    have h8 := plan_len a0 l2
    rw [h1, Option.bind_some, h2, Option.bind_some, h4, Option.bind_some, h5, Option.bind_some, h6, Option.bind_some, h7, Option.bind_some, if_pos rfl, ints_ev h3 (by decide), Option.bind_some, if_pos rfl, if_pos rfl, if_pos rfl, if_pos rfl, if_pos rfl, ints_ev h8 (by decide), Option.bind_some, if_pos rfl, if_pos rfl]
    simp
end Go.Proofs.Ytopbajcnihboiaa.Pure
