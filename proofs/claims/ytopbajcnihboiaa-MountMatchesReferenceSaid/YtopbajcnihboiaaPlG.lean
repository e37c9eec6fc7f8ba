/- The reference's plan in plain Lean: it is the plan. -/
import Derived.Test.YtopbajcnihboiaaPlC
import Derived.Test.YtopbajcnihboiaaExtD0
namespace Go.Proofs.Ytopbajcnihboiaa.Px
open Go.RowKit Go.Proofs.YtopbajcnihboiaaW.PrintWords Go.Proofs.YtopbajcnihboiaaW.PrintLast Go.Proofs.YtopbajcnihboiaaW.PrintMore
set_option linter.unusedVariables false
set_option linter.unusedSimpArgs false
def rowsOf : List Int → List (List Int)
  | [] => [[]]
  | c :: t => (reachV c).map (V t) :: rowsOf t
theorem rowsOf_len : ∀ t, (rowsOf t).length = t.length + 1
  | [] => rfl
  | c :: t => by rw [rowsOf, List.length_cons, rowsOf_len t, List.length_cons]
theorem reach_pos3 (c : Int) : 3 ≤ (reachV c).length := by
  unfold reachV
  split
  · simp
  · split <;> simp
theorem rdL_map {l : List Int} {j : Nat} (h : j < l.length) : rd_L1 (l.map reachV) (j : Int) = reachV (rd l (j : Int)) := by simp [rd_L1, rd, h]
theorem rdL_mid (i : Nat) (x : List Int) (r : List (List Int)) : rd_L1 (List.replicate i [] ++ x :: r) (i : Int) = x := by simp [rd_L1]
theorem rdL_next (i : Nat) (x y : List Int) (r : List (List Int)) : rd_L1 (List.replicate i [] ++ x :: y :: r) ((i : Int) + 1) = y := by
  unfold rd_L1
  rw [show ((i : Int) + 1).toNat = i + 1 by omega, List.getD_eq_getElem?_getD, List.getElem?_append_right (by simp)]
  simp
theorem set_mid (i : Nat) (x y : List Int) (r : List (List Int)) : (List.replicate i [] ++ x :: r).set (i : Int).toNat y = List.replicate i [] ++ y :: r := by
  rw [Int.toNat_natCast, List.set_append_right _ _ (by simp)]
  simp
theorem rd_map {f : Int → Int} {l : List Int} {j : Nat} (h : j < l.length) : rd (l.map f) (j : Int) = f (rd l (j : Int)) := by simp [rd, h]
theorem mid_len (i : Nat) (x : List Int) (t : List Int) : (List.replicate i ([] : List Int) ++ x :: rowsOf t).length = i + t.length + 2 := by
  rw [List.length_append, List.length_replicate, List.length_cons, rowsOf_len]
  omega
theorem rdist_ev {x y : Int} (h0 : In48 x) (h1 : In48 y) : observatoryref13_Dist.f x y = some (dst x y) := by
  obtain ⟨a0, a1⟩ := h0
  obtain ⟨b0, b1⟩ := h1
  unfold observatoryref13_Dist.f dst mx
  by_cases h : x > y
  · rw [if_pos h, wr (by omega) (by omega), if_neg (by omega)]
  · rw [if_neg h, wr (by omega) (by omega)]
    split <;> congr 1 <;> omega
theorem drop_cons2 {l : List Int} {i : Nat} (h : i < l.length) : l.drop i = rd l (i : Int) :: l.drop (i + 1) := drop_rd h
def MinOf (B : List Int) (g : Int → Int) (j : Nat) (m : Int) : Prop := (∀ s, s < j → m ≤ g (rd B (s : Int))) ∧ ∃ s, s < j ∧ m = g (rd B (s : Int))
theorem MinOf.next {B : List Int} {g : Int → Int} {j : Nat} {m : Int} (h : MinOf B g j m) : MinOf B g (j + 1) (if g (rd B (j : Int)) < m then g (rd B (j : Int)) else m) := by
  obtain ⟨h1, s0, h2, h3⟩ := h
  by_cases c : g (rd B (j : Int)) < m
  · rw [if_pos c]
    refine ⟨fun s hs => ?_, j, Nat.lt_succ_self j, rfl⟩
    rcases Nat.lt_or_ge s j with q | q
    · exact Int.le_trans (Int.le_of_lt c) (h1 s q)
    · rw [show s = j from Nat.le_antisymm (Nat.le_of_lt_succ hs) q]
      exact Int.le_refl _
  · rw [if_neg c]
    refine ⟨fun s hs => ?_, s0, Nat.lt_succ_of_lt h2, h3⟩
    rcases Nat.lt_or_ge s j with q | q
    · exact h1 s q
    · rw [show s = j from Nat.le_antisymm (Nat.le_of_lt_succ hs) q]
      exact Int.not_lt.1 c
theorem MinOf.one (B : List Int) (g : Int → Int) : MinOf B g 1 (g (rd B (0 : Int))) := ⟨fun s hs => by rw [show s = 0 by omega]; exact Int.le_refl _, 0, Nat.lt_succ_self 0, rfl⟩
theorem MinOf.bd {B : List Int} {g : Int → Int} {j : Nat} {m : Int} (h : MinOf B g j m) (hj : j ≤ B.length) (hg : ∀ p ∈ B, 0 ≤ g p ∧ g p ≤ 100000) : 0 ≤ m ∧ m ≤ 100000 := by
  obtain ⟨_, s, hs, rfl⟩ := h
  exact hg _ (rd_mem (by omega))
section
variable {x : Int} {N : Nat} {R : List Int × Int × Int} {L X : List (List Int)} {n i : Nat} {A B row : List Int} {G : Int → Int}
theorem w_succ {i : Nat} (h : i ≤ 1000) : wrap64 ((i : Int) + 1) = ((i + 1 : Nat) : Int) := by rw [wr (by omega) (by omega)]; omega
theorem lt_of (h : i < n) : (i : Int) < (n : Int) := by omega
/-- the least of one position's ways. -/
theorem pb_l2s (q : Nat) (hL : L.length = n) (hX : X.length = n + 1) (hn : n ≤ 40) (hi : i + 1 < n) (r0 : rd_L1 L (i : Int) = A) (r1 : rd_L1 L ((i + 1 : Nat) : Int) = B) (rm : rd_L1 X (i : Int) = row) (rn : rd_L1 X ((i + 1 : Nat) : Int) = B.map G) (hq : q < A.length) (hA : A.length ≤ 4) (hB : B.length ≤ 4) (hrow : row.length ≤ 4) (hA48 : ∀ p ∈ A, In48 p) (hB48 : ∀ p ∈ B, In48 p) (hG : ∀ p ∈ B, 0 ≤ G p ∧ G p ≤ 50000)
    (cont : ∀ m, MinOf B (fun b => dst (rd A (q : Int)) b + G b) B.length m → ∀ k, N ≤ k → observatoryref13_PlanB.l1 k x L (n : Int) (X.set i (row ++ [m])) (i : Int) ((q + 1 : Nat) : Int) = some R) :
    ∀ (d j : Nat) (least : Int), j + d = B.length → (0 < B.length) → (j = 0 ∨ MinOf B (fun b => dst (rd A (q : Int)) b + G b) j least) →
      ∀ k, N + 2 * d + 2 ≤ k → observatoryref13_PlanB.l2 k x L (n : Int) X (i : Int) (q : Int) least (j : Int) = some R
  | d, j, least, hd, hB0, hm, 0, hk => by omega
  | d, j, least, hd, hB0, hm, 1, hk => by omega
  | d, j, least, hd, hB0, hm, k + 2, hk => by
    have i0 : (0 : Int) ≤ (i : Int) := by omega
    have i1 : (i : Int) < (L.length : Int) := by omega
    have i2 : (0 : Int) ≤ ((i + 1 : Nat) : Int) := by omega
    have i3 : ((i + 1 : Nat) : Int) < (L.length : Int) := by omega
    have i4 : ((i + 1 : Nat) : Int) < (n : Int) := by omega
    have i5 : ((i + 1 : Nat) : Int) < (X.length : Int) := by omega
    have i6 : (i : Int) < (X.length : Int) := by omega
    have q0 : (0 : Int) ≤ (q : Int) := by omega
    have q1 : (q : Int) < (A.length : Int) := by omega
    have j0 : (0 : Int) ≤ (j : Int) := by omega
    have hpi := hA48 _ (rd_mem hq)
    have hi1000 : i ≤ 1000 := by omega
    rw [observatoryref13_PlanB.l2, w_succ hi1000, if_pos i4, if_pos i2, if_pos i3, r1]
    by_cases hj : j < B.length
    · have hpj := rd_mem hj
      have hpji := hB48 _ hpj
      have hGj := hG _ hpj
      have hdd := dst_bd hpi hpji
      have j1 : (j : Int) < (B.length : Int) := by omega
      have b0 : -9223372036854775808 ≤ dst (rd A (q : Int)) (rd B (j : Int)) + G (rd B (j : Int)) := by omega
      have b1 : dst (rd A (q : Int)) (rd B (j : Int)) + G (rd B (j : Int)) ≤ 9223372036854775807 := by omega
      have hj1000 : j ≤ 1000 := by omega
      rw [decide_eq_true j1, observatoryref13_PlanB.j3, if_pos rfl, if_pos i0, if_pos i1, if_pos q0, r0, if_pos q1, w_succ hi1000, if_pos i2, if_pos i3, if_pos j0, r1, if_pos j1, rdist_ev hpi hpji, Option.bind_some, if_pos i5, rn, List.length_map, if_pos j1, rd_map hj, wr b0 b1, w_succ hj1000]
      have nxt := fun m hm' => pb_l2s q hL hX hn hi r0 r1 rm rn hq hA hB hrow hA48 hB48 hG cont (d - 1) (j + 1) m (by omega) hB0 (.inr hm') k (by omega)
      rcases hm with rfl | hm
      · rw [if_pos (show ((0 : Nat) : Int) = 0 from rfl)]
        exact nxt _ (MinOf.one B _)
      · by_cases c : (j : Int) = 0
        · have hj0 : j = 0 := by omega
          subst hj0
          rw [if_pos (show ((0 : Nat) : Int) = 0 from rfl)]
          exact nxt _ (MinOf.one B _)
        · rw [if_neg c]
          have nx := hm.next
          by_cases c2 : dst (rd A (q : Int)) (rd B (j : Int)) + G (rd B (j : Int)) < least
          · rw [if_pos c2]
            rw [if_pos c2] at nx
            exact nxt _ nx
          · rw [if_neg c2]
            rw [if_neg c2] at nx
            exact nxt _ nx
    · have hjn : ¬ (j : Int) < (B.length : Int) := by omega
      have hjB : j = B.length := by omega
      have hq1000 : q ≤ 1000 := by omega
      rw [decide_eq_false hjn, observatoryref13_PlanB.j3, if_neg (by decide), if_pos i0, if_pos i6, rm, if_pos (show row.length < 17592186044416 by omega), Int.toNat_natCast]
      rw [w_succ hq1000]
      rcases hm with h | hm
      · omega
      · rw [hjB] at hm
        exact cont least hm k (by omega)
theorem pb_l2z (q : Nat) (hL : L.length = n) (hX : X.length = n + 1) (hn : n ≤ 40) (hi : i + 1 = n) (rm : rd_L1 X (i : Int) = row) (hq : q ≤ 4) (hrow : row.length ≤ 4) (cont : ∀ k, N ≤ k → observatoryref13_PlanB.l1 k x L (n : Int) (X.set i (row ++ [0])) (i : Int) ((q + 1 : Nat) : Int) = some R) :
    ∀ k, N + 2 ≤ k → observatoryref13_PlanB.l2 k x L (n : Int) X (i : Int) (q : Int) 0 0 = some R
  | 0, hk => by omega
  | 1, hk => by omega
  | k + 2, hk => by
    have i0 : (0 : Int) ≤ (i : Int) := by omega
    have i4 : ¬ ((i + 1 : Nat) : Int) < (n : Int) := by omega
    have i6 : (i : Int) < (X.length : Int) := by omega
    have hi1000 : i ≤ 1000 := by omega
    have hq1000 : q ≤ 1000 := by omega
    have hr : row.length < 17592186044416 := by omega
    have hk' : N ≤ k := by omega
    rw [observatoryref13_PlanB.l2, w_succ hi1000, if_neg i4, observatoryref13_PlanB.j3, if_neg (by decide), if_pos i0, if_pos i6, rm, if_pos hr, Int.toNat_natCast, w_succ hq1000]
    exact cont k hk'
end
theorem min_V {c p m : Int} {t : List Int} (hl : t.length ≤ 1000) (hc : Cols (c :: t)) (hp : In48 p) (h : MinOf (reachV c) (fun b => dst p b + V t b) (reachV c).length m) : m = V (c :: t) p := by
  obtain ⟨h1, s, hs, h2⟩ := h
  have h3 := V_le (t := t) hp (rd_mem hs)
  obtain ⟨b, hb, h4⟩ := V_ex hl hc hp
  obtain ⟨s', hs', rfl⟩ := List.getElem_of_mem hb
  have h5 := h1 s' hs'
  have e : rd (reachV c) (s' : Int) = (reachV c)[s'] := by simp [rd, hs']
  rw [e] at h5
  have h6 : m = dst p (rd (reachV c) (s : Int)) + V t (rd (reachV c) (s : Int)) := h2
  have h7 : m ≤ dst p (reachV c)[s'] + V t (reachV c)[s'] := h5
  omega
theorem V_bd2 {l : List Int} (hl : l.length ≤ 40) (hc : Cols l) {p : Int} (hp : In48 p) : 0 ≤ V l p ∧ V l p ≤ 50000 := by
  have := V_bd l p hc hp
  omega
theorem take_map_snoc {A : List Int} {f : Int → Int} {q : Nat} (h : q < A.length) : (A.take q).map f ++ [f (rd A (q : Int))] = (A.take (q + 1)).map f := by
  rw [List.take_succ_eq_append_getElem h, List.map_append]
  simp [rd, h]
theorem Cols.drop {l : List Int} (h : Cols l) (i : Nat) : Cols (l.drop i) := fun x hx => h x (List.mem_of_mem_drop hx)
theorem replicate_mid (m : Nat) (r : List (List Int)) : List.replicate (m + 1) ([] : List Int) ++ r = List.replicate m [] ++ [] :: r := by
  rw [List.replicate_succ', List.append_assoc]
  rfl
theorem w_pred {i : Nat} (h : i ≤ 1000) : wrap64 ((i : Int) - 1) = (i : Int) - 1 := wr (by omega) (by omega)
section
variable {x : Int} {N : Nat} {R : List Int × Int × Int} {l : List Int}
theorem pb_l1 (hc : Cols l) (hl : l.length ≤ 40) {i : Nat} (hi : i < l.length) {c : Int} (hce : rd l (i : Int) = c) {t : List Int} (hte : l.drop (i + 1) = t) {L : List (List Int)} (hL : L = l.map reachV)
    (cont : ∀ k, N ≤ k → observatoryref13_PlanB.l0 k x L (l.length : Int) (List.replicate i [] ++ (reachV c).map (V t) :: rowsOf t) ((i : Int) - 1) = some R) :
    ∀ (d q : Nat), q + d = (reachV c).length → ∀ k, N + 20 * d + 5 ≤ k → observatoryref13_PlanB.l1 k x L (l.length : Int) (List.replicate i [] ++ ((reachV c).take q).map (V t) :: rowsOf t) (i : Int) (q : Int) = some R
  | d, q, hd, 0, hk => by omega
  | d, q, hd, k + 1, hk => by
    have i0 : (0 : Int) ≤ (i : Int) := by omega
    have hi1000 : i ≤ 1000 := by omega
    have hLl : L.length = l.length := by rw [hL, List.length_map]
    have i1 : (i : Int) < (L.length : Int) := by omega
    have r0 : rd_L1 L (i : Int) = reachV c := by rw [hL, rdL_map hi, hce]
    have hcc : 0 ≤ c ∧ c ≤ 31 := by rw [← hce]; exact hc _ (rd_mem hi)
    have hct : Cols t := by rw [← hte]; exact hc.drop _
    have htl : t.length = l.length - (i + 1) := by rw [← hte, List.length_drop]
    have htl40 : t.length ≤ 40 := by omega
    have hl4 := reachV_len c
    have h48 : ∀ p ∈ reachV c, In48 p := fun p hp => reach_in hcc hp
    rw [observatoryref13_PlanB.l1, if_pos i0, if_pos i1, r0]
    by_cases hq : q < (reachV c).length
    · have q1 : (q : Int) < ((reachV c).length : Int) := by omega
      rw [if_pos q1]
      have hrl : (((reachV c).take q).map (V t)).length ≤ 4 := by rw [List.length_map, List.length_take]; omega
      have hX := mid_len i (((reachV c).take q).map (V t)) t
      have hX' : (List.replicate i ([] : List Int) ++ ((reachV c).take q).map (V t) :: rowsOf t).length = l.length + 1 := by omega
      have hd' : d - 1 + 1 = d := by omega
      have nx := pb_l1 hc hl hi hce hte hL cont (d - 1) (q + 1) (by omega)
      have sm := fun m => set_mid i (((reachV c).take q).map (V t)) (((reachV c).take q).map (V t) ++ [m]) (rowsOf t)
      simp only [Int.toNat_natCast] at sm
      have rmid := rdL_mid i (((reachV c).take q).map (V t)) (rowsOf t)
      have hpq := h48 _ (rd_mem hq)
      by_cases hlast : i + 1 < l.length
      · have hdr := drop_rd hlast
        rw [hte] at hdr
        have hB0 := reach_pos3 (rd l ((i + 1 : Nat) : Int))
        have hB4 := reachV_len (rd l ((i + 1 : Nat) : Int))
        have hcc1 := hc _ (rd_mem hlast)
        have r1 : rd_L1 L ((i + 1 : Nat) : Int) = reachV (rd l ((i + 1 : Nat) : Int)) := by rw [hL, rdL_map hlast]
        have ht2 : (l.drop (i + 2)).length ≤ 40 := by rw [List.length_drop]; omega
        have hc2 : Cols (l.drop (i + 2)) := hc.drop _
        have rn : rd_L1 (List.replicate i [] ++ ((reachV c).take q).map (V t) :: rowsOf t) ((i + 1 : Nat) : Int) = (reachV (rd l ((i + 1 : Nat) : Int))).map (V (l.drop (i + 2))) := by
          rw [hdr, rowsOf]
          exact rdL_next _ _ _ _
        generalize rd l ((i + 1 : Nat) : Int) = c1 at hdr hB0 hB4 hcc1 r1 rn
        refine pb_l2s (N := N + 20 * (d - 1) + 5) q hLl hX' hl hlast r0 r1 rmid rn hq hl4 hB4 hrl h48 (fun p hp => reach_in hcc1 hp) (fun p hp => V_bd2 ht2 hc2 (reach_in hcc1 hp)) ?_ (reachV c1).length 0 0 (by omega) (by omega) (.inl rfl) k (by omega)
        intro m hm k' hk'
        have e : m = V t (rd (reachV c) (q : Int)) := by
          rw [hdr]
          exact min_V (t := l.drop (i + 2)) (by omega) (by rw [← hdr]; exact hct) hpq hm
        rw [e, sm, take_map_snoc hq]
        exact nx k' hk'
      · have ht0 : t = [] := by rw [← hte]; exact List.drop_of_length_le (by omega)
        refine pb_l2z (N := N + 20 * (d - 1) + 5) q hLl hX' hl (by omega) rmid (by omega) hrl ?_ k (by omega)
        intro k' hk'
        have e : (0 : Int) = V t (rd (reachV c) (q : Int)) := by rw [ht0, V_nil hpq]
        rw [sm, e, take_map_snoc hq]
        exact nx k' hk'
    · have q1 : ¬ (q : Int) < ((reachV c).length : Int) := by omega
      rw [if_neg q1, w_pred hi1000, List.take_of_length_le (by omega)]
      exact cont k (by omega)
theorem pb_l0 (hc : Cols l) (hl : l.length ≤ 40) {L : List (List Int)} (hL : L = l.map reachV) (cont : ∀ k, N ≤ k → observatoryref13_PlanB.l3 k x L (l.length : Int) (rowsOf l) [] 0 0 = some R) :
    ∀ (m : Nat), m ≤ l.length → ∀ k, N + 110 * m + 2 ≤ k → observatoryref13_PlanB.l0 k x L (l.length : Int) (List.replicate m [] ++ rowsOf (l.drop m)) ((m : Int) - 1) = some R
  | m, hm, 0, hk => by omega
  | 0, hm, k + 1, hk => by
    rw [observatoryref13_PlanB.l0, if_neg (by decide)]
    exact cont k (by omega)
  | m + 1, hm, k + 1, hk => by
    have e : ((m + 1 : Nat) : Int) - 1 = (m : Int) := by omega
    have h0 : (m : Int) ≥ 0 := by omega
    rw [observatoryref13_PlanB.l0, e, if_pos h0, replicate_mid]
    have hl4 := reachV_len (rd l (m : Int))
    have hdr := drop_rd (l := l) (j := m) (by omega)
    have ih := pb_l0 hc hl hL cont m (by omega)
    refine pb_l1 (N := N + 110 * m + 2) hc hl (show m < l.length by omega) rfl rfl hL ?_ (reachV (rd l (m : Int))).length 0 (by omega) k (by omega)
    intro k' hk'
    have := ih k' hk'
    rw [hdr, rowsOf] at this
    exact this
end
theorem rows_at : ∀ (l : List Int) (i : Nat), i < l.length → rd_L1 (rowsOf l) (i : Int) = (reachV (rd l (i : Int))).map (V (l.drop (i + 1)))
  | c :: t, 0, _ => rfl
  | c :: t, i + 1, h => by
    have := rows_at t i (by simpa using h)
    unfold rd_L1 rd at this ⊢
    rw [Int.toNat_natCast] at this ⊢
    simpa [rowsOf] using this
def Best (A : List Int) (g : Int → Int) (b q : Nat) : Prop := b < q ∧ (∀ s, s < q → g (rd A (b : Int)) ≤ g (rd A (s : Int))) ∧ ∀ s, s < b → g (rd A (b : Int)) < g (rd A (s : Int))
theorem Best.hit {A : List Int} {g : Int → Int} {b q : Nat} (h : Best A g b q) (hg : g (rd A (q : Int)) < g (rd A (b : Int))) : Best A g q (q + 1) := by
  obtain ⟨h0, h1, h2⟩ := h
  refine ⟨Nat.lt_succ_self q, fun s hs => ?_, fun s hs => ?_⟩
  · rcases Nat.lt_or_ge s q with c | c
    · exact Int.le_trans (Int.le_of_lt hg) (h1 s c)
    · rw [show s = q from Nat.le_antisymm (Nat.le_of_lt_succ hs) c]
      exact Int.le_refl _
  · exact Int.lt_of_lt_of_le hg (h1 s hs)
theorem Best.miss {A : List Int} {g : Int → Int} {b q : Nat} (h : Best A g b q) (hg : ¬ g (rd A (q : Int)) < g (rd A (b : Int))) : Best A g b (q + 1) := by
  obtain ⟨h0, h1, h2⟩ := h
  refine ⟨Nat.lt_succ_of_lt h0, fun s hs => ?_, h2⟩
  rcases Nat.lt_or_ge s q with c | c
  · exact h1 s c
  · rw [show s = q from Nat.le_antisymm (Nat.le_of_lt_succ hs) c]
    exact Int.not_lt.1 hg
theorem best_path {c a : Int} {t : List Int} (hl : t.length ≤ 1000) (hc : Cols (c :: t)) (ha : In48 a) {b : Nat} (h : Best (reachV c) (fun p => dst a p + V t p) b (reachV c).length) : pathV a (c :: t) = rd (reachV c) (b : Int) :: pathV (rd (reachV c) (b : Int)) t ∧ V (c :: t) a = dst a (rd (reachV c) (b : Int)) + V t (rd (reachV c) (b : Int)) := by
  obtain ⟨h0, h1, h2⟩ := h
  obtain ⟨p, hp, hpath, hv, hmin⟩ := path_cons hl hc ha
  obtain ⟨s, hs, rfl⟩ := List.getElem_of_mem hp
  have es : rd (reachV c) (s : Int) = (reachV c)[s] := by simp [rd, hs]
  have eb : rd (reachV c) (b : Int) = (reachV c)[b] := by simp [rd, h0]
  have k1 : dst a (rd (reachV c) (b : Int)) + V t (rd (reachV c) (b : Int)) ≤ dst a (rd (reachV c) (s : Int)) + V t (rd (reachV c) (s : Int)) := h1 s hs
  have k2 := V_le (t := t) ha (rd_mem h0)
  have k3 : V (c :: t) a = dst a (rd (reachV c) (b : Int)) + V t (rd (reachV c) (b : Int)) := by
    rw [es] at k1
    omega
  have k4 := hmin _ (rd_mem h0) k3
  have k5 : s = b := by
    rcases Nat.lt_trichotomy s b with q | q | q
    · have k6 : dst a (rd (reachV c) (b : Int)) + V t (rd (reachV c) (b : Int)) < dst a (rd (reachV c) (s : Int)) + V t (rd (reachV c) (s : Int)) := h2 s q
      rw [es] at k6
      omega
    · exact q
    · have k6 := (List.pairwise_iff_getElem.1 (reach_sorted c)) b s h0 hs q
      rw [eb] at k4
      omega
  subst k5
  rw [es]
  exact ⟨hpath, hv⟩
section
variable {P : List Int} {T : Int} {l : List Int} {L : List (List Int)}
theorem pb_l4 (hc : Cols l) (hl : l.length ≤ 40) (hL : L = l.map reachV) {i : Nat} (hi : i < l.length) {c : Int} (hce : rd l (i : Int) = c) {t : List Int} (hte : l.drop (i + 1) = t) {a tot : Int} {out : List Int} (ha : In48 a) (ho : out.length ≤ 40) (ht : 0 ≤ tot ∧ tot ≤ 100000) {N : Nat} {R : List Int × Int × Int}
    (cont : ∀ p, p ∈ reachV c → pathV a (c :: t) = p :: pathV p t → V (c :: t) a = dst a p + V t p → ∀ k, N ≤ k → observatoryref13_PlanB.l3 k p L (l.length : Int) (rowsOf l) (out ++ [p]) (tot + dst a p) ((i + 1 : Nat) : Int) = some R) :
    ∀ (d q b : Nat), q + d = (reachV c).length → Best (reachV c) (fun p => dst a p + V t p) b q → ∀ k, N + d + 1 ≤ k → observatoryref13_PlanB.l4 k a L (l.length : Int) (rowsOf l) out tot (i : Int) (b : Int) (q : Int) = some R
  | d, q, b, hd, hb, 0, hk => by omega
  | d, q, b, hd, hb, k + 1, hk => by
    have i0 : (0 : Int) ≤ (i : Int) := by omega
    have hi1000 : i ≤ 1000 := by omega
    have hLl : L.length = l.length := by rw [hL, List.length_map]
    have i1 : (i : Int) < (L.length : Int) := by omega
    have hrl := rowsOf_len l
    have i2 : (i : Int) < ((rowsOf l).length : Int) := by omega
    have r0 : rd_L1 L (i : Int) = reachV c := by rw [hL, rdL_map hi, hce]
    have r1 : rd_L1 (rowsOf l) (i : Int) = (reachV c).map (V t) := by rw [rows_at l i hi, hce, hte]
    have hcc : 0 ≤ c ∧ c ≤ 31 := by rw [← hce]; exact hc _ (rd_mem hi)
    have hct : Cols t := by rw [← hte]; exact hc.drop _
    have hctc : Cols (c :: t) := by rw [← hce, ← hte, ← drop_rd hi]; exact hc.drop _
    have htl : t.length = l.length - (i + 1) := by rw [← hte, List.length_drop]
    have htl40 : t.length ≤ 40 := by omega
    have hl4 := reachV_len c
    have h48 : ∀ p ∈ reachV c, In48 p := fun p hp => reach_in hcc hp
    have hbq := hb.1
    have hbA : b < (reachV c).length := by omega
    have b0 : (0 : Int) ≤ (b : Int) := by omega
    have b1 : (b : Int) < ((reachV c).length : Int) := by omega
    have hpb := h48 _ (rd_mem hbA)
    have hVb := V_bd2 htl40 hct hpb
    have hdb := dst_bd ha hpb
    rw [observatoryref13_PlanB.l4, if_pos i0, if_pos i1, r0]
    by_cases hq : q < (reachV c).length
    · have q0 : (0 : Int) ≤ (q : Int) := by omega
      have q1 : (q : Int) < ((reachV c).length : Int) := by omega
      have hpq := h48 _ (rd_mem hq)
      have hVq := V_bd2 htl40 hct hpq
      have hdq := dst_bd ha hpq
      have hq1000 : q ≤ 1000 := by omega
      have s0 : -9223372036854775808 ≤ dst a (rd (reachV c) (q : Int)) + V t (rd (reachV c) (q : Int)) := by omega
      have s1 : dst a (rd (reachV c) (q : Int)) + V t (rd (reachV c) (q : Int)) ≤ 9223372036854775807 := by omega
      have s2 : -9223372036854775808 ≤ dst a (rd (reachV c) (b : Int)) + V t (rd (reachV c) (b : Int)) := by omega
      have s3 : dst a (rd (reachV c) (b : Int)) + V t (rd (reachV c) (b : Int)) ≤ 9223372036854775807 := by omega
      have hk' : N + (d - 1) + 1 ≤ k := by omega
      have hd' : q + 1 + (d - 1) = (reachV c).length := by omega
      rw [if_pos q1, if_pos q0, rdist_ev ha hpq, Option.bind_some, if_pos i2, r1, List.length_map, if_pos q1, if_pos b0, if_pos b1, rdist_ev ha hpb, Option.bind_some, if_pos b1, rd_map hq, rd_map hbA, wr s0 s1, wr s2 s3, w_succ hq1000]
      by_cases e : dst a (rd (reachV c) (q : Int)) + V t (rd (reachV c) (q : Int)) < dst a (rd (reachV c) (b : Int)) + V t (rd (reachV c) (b : Int))
      · rw [if_pos e]
        exact pb_l4 hc hl hL hi hce hte ha ho ht cont (d - 1) (q + 1) q hd' (hb.hit e) k hk'
      · rw [if_neg e]
        exact pb_l4 hc hl hL hi hce hte ha ho ht cont (d - 1) (q + 1) b hd' (hb.miss e) k hk'
    · have q1 : ¬ (q : Int) < ((reachV c).length : Int) := by omega
      have hqe : q = (reachV c).length := by omega
      rw [hqe] at hb
      obtain ⟨k1, k2⟩ := best_path (by omega) hctc ha hb
      have o1 : out.length < 17592186044416 := by omega
      have s0 : -9223372036854775808 ≤ tot + dst a (rd (reachV c) (b : Int)) := by omega
      have s1 : tot + dst a (rd (reachV c) (b : Int)) ≤ 9223372036854775807 := by omega
      have hk' : N ≤ k := by omega
      rw [if_neg q1, if_pos b0, if_pos b1, rdist_ev ha hpb, Option.bind_some, if_pos o1, wr s0 s1, w_succ hi1000]
      exact cont _ (rd_mem hbA) k1 k2 k hk'
theorem pb_l3 (hc : Cols l) (hl : l.length ≤ 40) (hL : L = l.map reachV) : ∀ (d i : Nat) (a tot : Int) (out : List Int), i + d = l.length → In48 a → out.length ≤ i → 0 ≤ tot → tot ≤ 100 * (i : Int) → out ++ pathV a (l.drop i) = P → tot + V (l.drop i) a = T → ∀ k, 10 * d + 1 ≤ k → observatoryref13_PlanB.l3 k a L (l.length : Int) (rowsOf l) out tot (i : Int) = some (P, T, 0)
  | d, i, a, tot, out, hd, ha, ho, t0, t1, hP, hT, 0, hk => by omega
  | 0, i, a, tot, out, hd, ha, ho, t0, t1, hP, hT, k + 1, hk => by
    have q : ¬ (i : Int) < (l.length : Int) := by omega
    rw [List.drop_of_length_le (by omega)] at hP hT
    rw [V_nil ha, Int.add_zero] at hT
    have hP' : out = P := by rw [← hP]; simp [pathV]
    rw [observatoryref13_PlanB.l3, if_neg q, hP', hT]
  | d + 1, i, a, tot, out, hd, ha, ho, t0, t1, hP, hT, k + 1, hk => by
    have q : (i : Int) < (l.length : Int) := by omega
    have hi : i < l.length := by omega
    have hdr := drop_rd hi
    have hcc := hc _ (rd_mem hi)
    have hl4 := reachV_len (rd l (i : Int))
    have hl3 := reach_pos3 (rd l (i : Int))
    rw [hdr] at hP hT
    rw [observatoryref13_PlanB.l3, if_pos q]
    refine pb_l4 (N := 10 * d + 1) hc hl hL hi rfl rfl ha (by omega) ⟨t0, by omega⟩ ?_ ((reachV (rd l (i : Int))).length - 1) 1 0 (by omega) ⟨Nat.lt_succ_self 0, fun s hs => by rw [show s = 0 by omega]; exact Int.le_refl _, fun s hs => by omega⟩ k (by omega)
    intro p hp h1 h2 k' hk'
    have hpi := reach_in hcc hp
    have hdp := dst_bd ha hpi
    rw [h1] at hP
    rw [h2] at hT
    refine pb_l3 hc hl hL d (i + 1) p _ _ (by omega) hpi (by rw [List.length_append, List.length_singleton]; omega) (by omega) (by omega) (by rw [List.append_assoc]; exact hP) (by omega) k' hk'
end
theorem planB_ev {l : List Int} {a : Int} (hc : Cols l) (hl : l.length ≤ 40) (ha : In48 a) (k : Nat) (hk : 5000 ≤ k) : observatoryref13_PlanB.f k a l (l.map reachV) = some (pathV a l, V l a, 0) := by
  have h0 : (0 : Int) ≤ ((l.length + 1 : Nat) : Int) := by omega
  have h1 : ((l.length + 1 : Nat) : Int).toNat ≤ 11728124029610 := by omega
  have hn : l.length ≤ 1000 := by omega
  unfold observatoryref13_PlanB.f
  rw [w_succ hn, if_pos h0, if_pos h1, w_pred hn, Int.toNat_natCast]
  have := pb_l0 (N := 450) (x := a) (R := (pathV a l, V l a, 0)) hc hl rfl (fun k hk => pb_l3 hc hl rfl l.length 0 a 0 [] (by omega) ha (Nat.le_refl _) (Int.le_refl _) (by omega) rfl (by rw [List.drop_zero]; omega) k (by omega)) l.length (Nat.le_refl _) k (by omega)
  rw [List.drop_length] at this
  rw [List.replicate_succ']
  exact this
theorem rreach_all : ((List.range 32).all fun c => observatoryref13_Reach.f 200 (c : Int) == some (reachV (c : Int), 0)) = true := by kernel_rfl
theorem rreach_ev {c : Int} (h : 0 ≤ c ∧ c ≤ 31) : ∀ d : Nat, observatoryref13_Reach.f (200 + d) c = some (reachV c, 0)
  | 0 => by
    have h2 := List.all_eq_true.1 rreach_all c.toNat (List.mem_range.2 (by omega))
    rw [Int.toNat_of_nonneg h.1] at h2
    exact eq_of_beq h2
  | d + 1 => observatoryref13_Reach.mono c (200 + d) _ (rreach_ev h d)
theorem rreach_no {c : Int} (h : ¬ (0 ≤ c ∧ c ≤ 31)) (d : Nat) : observatoryref13_Reach.f (d + 1) c = some ([], 1) := by
  unfold observatoryref13_Reach.f
  by_cases q : c < 0
  · rw [if_pos q, observatoryref13_Reach.j0, if_pos rfl]
  · rw [if_neg q, decide_eq_true (show c > 31 by omega), observatoryref13_Reach.j0, if_pos rfl]
theorem pa_l0 {l : List Int} {a : Int} (hl : l.length ≤ 40) (ha : In48 a) : ∀ (d i : Nat), i + d = l.length → (∀ j, j < i → colB (rd l (j : Int)) = true) → ∀ k, d + 6000 ≤ k → observatoryref13_PlanA.l0 a l k l (l.length : Int) ((l.take i).map reachV) (i : Int) = some (planV a l)
  | d, i, hd, hi, 0, hk => by omega
  | 0, i, hd, hi, k + 1, hk => by
    have q : ¬ (i : Int) < (l.length : Int) := by omega
    have hall := all_rd (l := l) (fun j hj => hi j (by omega))
    have hc : Cols l := fun c h => of_decide_eq_true (List.all_eq_true.1 hall c h)
    rw [observatoryref13_PlanA.l0, if_neg q, List.take_of_length_le (by omega), planB_ev hc hl ha k (by omega)]
    have := plan_ev ha hl hc
    unfold mount_Plan.f at this
    exact this.symm
  | d + 1, i, hd, hi, k + 1, hk => by
    have q : (i : Int) < (l.length : Int) := by omega
    have q0 : (0 : Int) ≤ (i : Int) := by omega
    have hin : i < l.length := by omega
    have hi1000 : i ≤ 1000 := by omega
    have hk1 : 200 + (k - 200) = k := by omega
    have hk2 : k - 1 + 1 = k := by omega
    rw [observatoryref13_PlanA.l0, if_pos q, if_pos q0, if_pos q]
    by_cases c : 0 ≤ rd l (i : Int) ∧ rd l (i : Int) ≤ 31
    · have h1 := rreach_ev c (k - 200)
      rw [hk1] at h1
      have hlen : ((l.take i).map reachV).length < 5864062014805 := by rw [List.length_map, List.length_take]; omega
      rw [h1, Option.bind_some, if_pos rfl, if_pos hlen, w_succ hi1000]
      have e : (l.take i).map reachV ++ [reachV (rd l (i : Int))] = (l.take (i + 1)).map reachV := by
        rw [List.take_succ_eq_append_getElem hin, List.map_append]
        simp [rd, hin]
      rw [e]
      refine pa_l0 hl ha d (i + 1) (by omega) (fun j hj => ?_) k (by omega)
      rcases Nat.lt_or_ge j i with h | h
      · exact hi j h
      · rw [show j = i by omega]
        exact decide_eq_true c
    · have h1 := rreach_no c (k - 1)
      rw [hk2] at h1
      rw [h1, Option.bind_some, if_neg (by decide)]
      unfold planV
      rw [not_all_rd hin (decide_eq_false c), Bool.and_false]
      rfl
theorem planA_ev (a : Int) (l : List Int) : observatoryref13_PlanA.f 7000 a l = some (planV a l) := by
  have h1 : observatoryref13_Is.f a = some (inB a) := by
    unfold observatoryref13_Is.f inB
    by_cases h : a ≥ -48
    · rw [if_pos h]
      congr 1
      rw [decide_eq_decide]
      omega
    · rw [if_neg h, decide_eq_false (by omega)]
  unfold observatoryref13_PlanA.f
  rw [h1, Option.bind_some]
  by_cases hb : inB a = true
  · rw [if_pos hb]
    by_cases hl : l.length ≤ 40
    · rw [decide_eq_false (by omega), observatoryref13_PlanA.j0, if_neg (by decide)]
      have hb' : -48 ≤ a ∧ a ≤ 48 := of_decide_eq_true hb
      exact pa_l0 hl hb' l.length 0 (by omega) (fun j hj => by omega) _ (by omega)
    · rw [decide_eq_true (show (l.length : Int) > 40 by omega), observatoryref13_PlanA.j0, if_pos rfl]
      unfold planV
      rw [decide_eq_false hl, Bool.and_false, Bool.false_and]
      rfl
  · rw [if_neg hb, observatoryref13_PlanA.j0, if_pos rfl]
    unfold planV
    rw [Bool.eq_false_iff.mpr hb, Bool.false_and, Bool.false_and]
    rfl
end Go.Proofs.Ytopbajcnihboiaa.Px
