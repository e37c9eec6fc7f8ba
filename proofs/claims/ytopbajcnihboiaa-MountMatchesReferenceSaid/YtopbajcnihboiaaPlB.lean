/- More on plans in plain Lean: other ways, the opposite, parts. -/
import Derived.Test.YtopbajcnihboiaaPlA
namespace Go.Proofs.Ytopbajcnihboiaa.Px
open Go.RowKit Go.Proofs.YtopbajcnihboiaaW.PrintWords Go.Proofs.YtopbajcnihboiaaW.PrintLast Go.Proofs.YtopbajcnihboiaaW.PrintMore
set_option linter.unusedVariables false
set_option linter.unusedSimpArgs false
def plen : Int → List Int → Int
  | _, [] => 0
  | a, p :: t => dst a p + plen p t
def WayOf : List Int → List Int → Prop
  | [], [] => True
  | c :: t, p :: s => p ∈ reachV c ∧ WayOf t s
  | _, _ => False
/-- the way differs first to a greater position (1), to a less one (-1), or not (0). -/
def lexo : List Int → List Int → Int
  | p :: s, q :: u => if q < p then -1 else if q > p then 1 else lexo s u
  | _, _ => 0
theorem path_way : ∀ (l : List Int) (a : Int), l.length ≤ 1000 → Cols l → In48 a → WayOf l (pathV a l) ∧ plen a (pathV a l) = V l a
  | [], a, _, _, ha => ⟨trivial, (V_nil ha).symm⟩
  | c :: t, a, hl, hc, ha => by
    rw [List.length_cons] at hl
    obtain ⟨p, hp, h, hv, _⟩ := path_cons (by omega) hc ha
    obtain ⟨h1, h2⟩ := path_way t p (by omega) hc.tail (reach_in hc.head hp)
    rw [h]
    exact ⟨⟨hp, h1⟩, by show dst a p + plen p (pathV p t) = _; rw [h2, hv]⟩
theorem V_min : ∀ (l q : List Int) (a : Int), Cols l → In48 a → WayOf l q → V l a ≤ plen a q
  | [], [], a, _, ha, _ => by rw [V_nil ha]; exact Int.le_refl _
  | c :: t, p :: s, a, hc, ha, h => by
    have h1 := V_le (t := t) ha h.1
    have h2 := V_min t s p hc.tail (reach_in hc.head h.1) h.2
    show _ ≤ dst a p + plen p s
    omega
theorem V_first : ∀ (l q : List Int) (a : Int), l.length ≤ 1000 → Cols l → In48 a → WayOf l q → plen a q = V l a → 0 ≤ lexo (pathV a l) q
  | [], [], a, _, _, _, _, _ => Int.le_refl _
  | c :: t, p :: s, a, hl, hc, ha, hw, he => by
    rw [List.length_cons] at hl
    obtain ⟨p', hp', h, hv, hf⟩ := path_cons (t := t) (by omega) hc ha
    have h1 := V_le (t := t) ha hw.1
    have h2 := V_min t s p hc.tail (reach_in hc.head hw.1) hw.2
    have he' : dst a p + plen p s = V (c :: t) a := he
    have h3 := hf p hw.1 (by omega)
    rw [h]
    unfold lexo
    rw [if_neg (by omega)]
    by_cases e : p > p'
    · rw [if_pos e]
      decide
    · rw [if_neg e]
      have e2 : p' = p := by omega
      rw [e2]
      exact V_first t s p (by omega) hc.tail (reach_in hc.head hw.1) hw.2 (by omega)
theorem V_app_le : ∀ (l m : List Int) (a : Int), (l ++ m).length ≤ 1000 → Cols (l ++ m) → In48 a → V l a ≤ V (l ++ m) a ∧ V (l ++ m) a ≤ V l a + V m ((pathV a l).getLastD a)
  | [], m, a, hl, hc, ha => by
    rw [V_nil ha]
    have := V_bd m a hc ha
    exact ⟨this.1, by show V m a ≤ 0 + V m a; omega⟩
  | c :: t, m, a, hl, hc, ha => by
    have hl' : (t ++ m).length ≤ 999 := by
      rw [List.cons_append, List.length_cons] at hl
      omega
    have hlt : t.length ≤ 1000 := by rw [List.length_append] at hl'; omega
    have hct : Cols (t ++ m) := Cols.tail (c := c) hc
    have hcl : Cols (c :: t) := fun x hx => hc x (by rw [List.cons_append]; rcases List.mem_cons.1 hx with rfl | h; exact List.mem_cons_self; exact List.mem_cons_of_mem _ (List.mem_append_left _ h))
    constructor
    · obtain ⟨p, hp, hv⟩ := V_ex (c := c) (t := t ++ m) (a := a) (by omega) hc ha
      have h1 := V_le (t := t) ha hp
      have h2 := (V_app_le t m p (by omega) hct (reach_in hcl.head hp)).1
      rw [List.cons_append, hv]
      omega
    · obtain ⟨p, hp, h, hv, _⟩ := path_cons (t := t) hlt hcl ha
      have h1 := V_le (t := t ++ m) ha hp
      have h2 := (V_app_le t m p (by omega) hct (reach_in hcl.head hp)).2
      rw [List.cons_append, h, hv]
      have e : (p :: pathV p t).getLastD a = (pathV p t).getLastD p := by
        cases pathV p t <;> rfl
      rw [e]
      omega
theorem dst_neg (a b : Int) : dst (-a) (-b) = dst a b := by
  unfold dst mx
  rw [show -a - -b = b - a by omega, show -b - -a = a - b by omega]
  split <;> split <;> omega
theorem reach_all_mem : ((List.range 32).all fun c => (List.range 97).all fun i => decide (((i : Int) - 48) ∈ reachV (c : Int)) == decide ((((i : Int) - 48) - (c : Int)) % 32 = 0)) = true := by kernel_rfl
theorem reach_iff {c p : Int} (hc : 0 ≤ c ∧ c ≤ 31) (hp : In48 p) : p ∈ reachV c ↔ (p - c) % 32 = 0 := by
  obtain ⟨hc0, hc1⟩ := hc
  obtain ⟨h0, h1⟩ := hp
  have h := List.all_eq_true.1 (List.all_eq_true.1 reach_all_mem c.toNat (List.mem_range.2 (by omega))) (p + 48).toNat (List.mem_range.2 (by omega))
  rw [Int.toNat_of_nonneg hc0, Int.toNat_of_nonneg (show 0 ≤ p + 48 by omega), show p + 48 - 48 = p by omega] at h
  exact decide_eq_decide.1 (eq_of_beq h)
def opp (c : Int) : Int := (32 - c) % 32
theorem opp_col {c : Int} (h : 0 ≤ c ∧ c ≤ 31) : 0 ≤ opp c ∧ opp c ≤ 31 := by
  unfold opp
  omega
theorem opp_reach {c p : Int} (hc : 0 ≤ c ∧ c ≤ 31) (hp : p ∈ reachV c) : -p ∈ reachV (opp c) := by
  have hi := reach_in hc hp
  have h := (reach_iff hc hi).1 hp
  obtain ⟨i0, i1⟩ := hi
  refine (reach_iff (opp_col hc) ⟨by omega, by omega⟩).2 ?_
  unfold opp
  omega
theorem opp_opp {c : Int} (h : 0 ≤ c ∧ c ≤ 31) : opp (opp c) = c := by
  unfold opp
  omega
theorem opp_cols {l : List Int} (h : Cols l) : Cols (l.map opp) := by
  intro x hx
  obtain ⟨c, hc, rfl⟩ := List.mem_map.1 hx
  exact opp_col (h c hc)
theorem V_opp_le : ∀ (l : List Int) (a : Int), l.length ≤ 1000 → Cols l → In48 a → V (l.map opp) (-a) ≤ V l a
  | [], a, _, _, ha => by rw [V_nil ha]; show V [] (-a) ≤ 0; rw [V_nil ⟨by have := ha.2; omega, by have := ha.1; omega⟩]; exact Int.le_refl _
  | c :: t, a, hl, hc, ha => by
    rw [List.length_cons] at hl
    obtain ⟨p, hp, hv⟩ := V_ex (t := t) (by omega) hc ha
    have h1 := V_le (c := opp c) (t := t.map opp) (a := -a) ⟨by have := ha.2; omega, by have := ha.1; omega⟩ (opp_reach hc.head hp)
    have h2 := V_opp_le t p (by omega) hc.tail (reach_in hc.head hp)
    rw [dst_neg] at h1
    rw [List.map_cons, hv]
    omega
theorem V_opp (l : List Int) (a : Int) (hl : l.length ≤ 1000) (hc : Cols l) (ha : In48 a) : V (l.map opp) (-a) = V l a := by
  have h1 := V_opp_le l a hl hc ha
  have h2 := V_opp_le (l.map opp) (-a) (by simpa using hl) (opp_cols hc) ⟨by have := ha.2; omega, by have := ha.1; omega⟩
  rw [List.map_map, Int.neg_neg] at h2
  have e : l.map (opp ∘ opp) = l := by
    have : l.map (opp ∘ opp) = l.map id := List.map_congr_left (fun c hx => opp_opp (hc c hx))
    rw [this, List.map_id]
  rw [e] at h2
  omega
end Go.Proofs.Ytopbajcnihboiaa.Px
