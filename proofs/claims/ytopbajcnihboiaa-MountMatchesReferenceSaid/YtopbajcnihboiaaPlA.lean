/- Plans in plain Lean: the length is the least one, and the plan the first of the shortest. -/
import Derived.Test.YtopbajcnihboiaaExtC
namespace Go.Proofs.Ytopbajcnihboiaa.Px
open Go.RowKit Go.Proofs.YtopbajcnihboiaaW.PrintWords Go.Proofs.YtopbajcnihboiaaW.PrintLast Go.Proofs.YtopbajcnihboiaaW.PrintMore
def In48 (a : Int) : Prop := -48 ≤ a ∧ a ≤ 48
def Cols (l : List Int) : Prop := ∀ c ∈ l, 0 ≤ c ∧ c ≤ 31
def V (l : List Int) (a : Int) : Int := rd (leftV l) (a + 48)
theorem Cols.tail {c : Int} {t : List Int} (h : Cols (c :: t)) : Cols t := fun x hx => h x (List.mem_cons_of_mem _ hx)
theorem Cols.head {c : Int} {t : List Int} (h : Cols (c :: t)) : 0 ≤ c ∧ c ≤ 31 := h c (List.mem_cons_self)
theorem reach_in {c p : Int} (hc : 0 ≤ c ∧ c ≤ 31) (h : p ∈ reachV c) : In48 p := by
  have := reachV_mem hc.1 hc.2 h
  exact ⟨this.1, this.2.1⟩
theorem V_nil {a : Int} (h : In48 a) : V [] a = 0 := by
  obtain ⟨h0, h1⟩ := h
  unfold V leftV Z97 rd
  rw [List.getD_eq_getElem?_getD, List.getElem?_replicate]
  split <;> rfl
theorem V_best {c a : Int} {t : List Int} (h : In48 a) : V (c :: t) a = best (leftV t) (a + 48) (reachV c) := by
  obtain ⟨h0, h1⟩ := h
  have e := bef_rd (reachV c) (leftV t) (a + 48).toNat (by omega)
  rw [Int.toNat_of_nonneg (by omega)] at e
  exact e
theorem cost_V (t : List Int) (a p : Int) : cost (leftV t) (a + 48) p = dst a p + V t p := by
  unfold cost V
  rw [show a + 48 - 48 = a by omega]
theorem mn_le (x y : Int) : mn x y ≤ x ∧ mn x y ≤ y ∧ (mn x y = x ∨ mn x y = y) := by
  unfold mn
  split <;> omega
theorem fold_le (f : Int → Int) : ∀ (l : List Int) (m : Int), l.foldl (fun m p => mn m (f p)) m ≤ m ∧ ∀ p ∈ l, l.foldl (fun m p => mn m (f p)) m ≤ f p
  | [], m => ⟨Int.le_refl _, fun p h => by cases h⟩
  | q :: t, m => by
    obtain ⟨h1, h2⟩ := fold_le f t (mn m (f q))
    have h3 := mn_le m (f q)
    refine ⟨Int.le_trans h1 h3.1, fun p hp => ?_⟩
    rcases List.mem_cons.1 hp with rfl | hp
    · exact Int.le_trans h1 h3.2.1
    · exact h2 p hp
theorem fold_ex (f : Int → Int) : ∀ (l : List Int) (m : Int), l.foldl (fun m p => mn m (f p)) m = m ∨ ∃ p ∈ l, l.foldl (fun m p => mn m (f p)) m = f p
  | [], m => .inl rfl
  | q :: t, m => by
    rcases fold_ex f t (mn m (f q)) with h | ⟨p, hp, h⟩
    · rcases (mn_le m (f q)).2.2 with e | e
      · exact .inl (h.trans e)
      · exact .inr ⟨q, List.mem_cons_self, h.trans e⟩
    · exact .inr ⟨p, List.mem_cons_of_mem _ hp, h⟩
theorem V_le {c a p : Int} {t : List Int} (ha : In48 a) (hp : p ∈ reachV c) : V (c :: t) a ≤ dst a p + V t p := by
  rw [V_best ha, ← cost_V]
  exact (fold_le (cost (leftV t) (a + 48)) _ _).2 p hp
theorem reach_ne (c : Int) : ∃ p, p ∈ reachV c := by
  unfold reachV
  split
  · exact ⟨_, List.mem_cons_self⟩
  · split <;> exact ⟨_, List.mem_cons_self⟩
theorem V_bd : ∀ (l : List Int) (a : Int), Cols l → In48 a → 0 ≤ V l a ∧ V l a ≤ 96 * (l.length : Int)
  | [], a, _, ha => by rw [V_nil ha]; simp
  | c :: t, a, hc, ha => by
    have h0 := (leftV_ok (c :: t) hc).2
    have h1 : 0 ≤ V (c :: t) a := (rd_bd h0 (a + 48) (by have := ha.1; omega) (by rw [(leftV_ok (c :: t) hc).1]; have := ha.2; omega)).1
    obtain ⟨p, hp⟩ := reach_ne c
    have hpi := reach_in hc.head hp
    have h2 := V_le (t := t) ha hp
    have h3 := V_bd t p hc.tail hpi
    have h4 := dst_bd ha hpi
    refine ⟨h1, ?_⟩
    rw [List.length_cons]
    omega
theorem V_ex {c a : Int} {t : List Int} (hl : t.length ≤ 1000) (hc : Cols (c :: t)) (ha : In48 a) : ∃ p ∈ reachV c, V (c :: t) a = dst a p + V t p := by
  rcases fold_ex (cost (leftV t) (a + 48)) (reachV c) 1073741824 with h | ⟨p, hp, h⟩
  · have h2 := V_bd (c :: t) a hc ha
    have h3 : V (c :: t) a = 1073741824 := (V_best ha).trans h
    rw [List.length_cons] at h2
    omega
  · exact ⟨p, hp, ((V_best ha).trans h).trans (cost_V t a p)⟩
theorem reach_sorted (c : Int) : (reachV c).Pairwise (· < ·) := by
  unfold reachV
  split
  · simp; omega
  · split
    · simp
    · simp; omega
/-- the first step of a plan. -/
theorem path_cons {c a : Int} {t : List Int} (hl : t.length ≤ 1000) (hc : Cols (c :: t)) (ha : In48 a) : ∃ p, p ∈ reachV c ∧ pathV a (c :: t) = p :: pathV p t ∧ V (c :: t) a = dst a p + V t p ∧ ∀ q ∈ reachV c, V (c :: t) a = dst a q + V t q → p ≤ q := by
  have hn : nextV a c (leftV t) (leftV (c :: t)) = (reachV c).find? (fun p => decide (dst a p + V t p = V (c :: t) a)) := rfl
  cases hf : (reachV c).find? (fun p => decide (dst a p + V t p = V (c :: t) a)) with
  | none =>
    obtain ⟨p, hp, h⟩ := V_ex hl hc ha
    have := List.find?_eq_none.1 hf p hp
    simp [h] at this
  | some p =>
    obtain ⟨h1, xs, ys, h2, h3⟩ := List.find?_eq_some_iff_append.1 hf
    have hp : p ∈ reachV c := by rw [h2]; simp
    refine ⟨p, hp, path_hit (hn.trans hf), (of_decide_eq_true h1).symm, fun q hq hv => ?_⟩
    have hs := reach_sorted c
    rw [h2] at hs hq
    rcases List.mem_append.1 hq with h | h
    · have := h3 q h
      simp [hv] at this
    · rcases List.mem_cons.1 h with rfl | h
      · exact Int.le_refl _
      · have := (List.pairwise_append.1 hs).2.1
        exact Int.le_of_lt ((List.pairwise_cons.1 this).1 q h)
theorem path_len : ∀ (l : List Int) (a : Int), l.length ≤ 1000 → Cols l → In48 a → (pathV a l).length = l.length
  | [], _, _, _, _ => rfl
  | c :: t, a, hl, hc, ha => by
    rw [List.length_cons] at hl
    obtain ⟨p, hp, h, _⟩ := path_cons (by omega) hc ha
    rw [h, List.length_cons, path_len t p (by omega) hc.tail (reach_in hc.head hp), List.length_cons]
end Go.Proofs.Ytopbajcnihboiaa.Px
