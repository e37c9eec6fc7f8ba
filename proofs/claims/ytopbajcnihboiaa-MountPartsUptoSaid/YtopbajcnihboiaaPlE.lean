/- The law MountParts in plain Lean. -/
import Derived.Test.YtopbajcnihboiaaPlD
import Derived.Test.YtopbajcnihboiaaPxx24
namespace Go.Proofs.Ytopbajcnihboiaa.Px
open Go.RowKit Go.Proofs.YtopbajcnihboiaaW.PrintWords Go.Proofs.YtopbajcnihboiaaW.PrintLast Go.Proofs.YtopbajcnihboiaaW.PrintMore
set_option linter.unusedVariables false
set_option linter.unusedSimpArgs false
theorem dst_self (a : Int) : dst a a = 0 := by unfold dst mx; split <;> omega
theorem own_zero {a o : Int} (ha : In48 a) (ho : o = (a + 64) % 32) : (Cols [o, o, o]) ∧ V [o, o, o] a = 0 := by
  have hoc : 0 ≤ o ∧ o ≤ 31 := by omega
  have hc : Cols [o, o, o] := fun x hx => by
    simp only [List.mem_cons, List.not_mem_nil, or_false, or_self] at hx
    subst hx
    exact hoc
  have hm : a ∈ reachV o := (reach_iff hoc ha).2 (by omega)
  have h1 := V_min [o, o, o] [a, a, a] a hc ha ⟨hm, hm, hm, trivial⟩
  have h2 := (V_bd [o, o, o] a hc ha).1
  have h3 : plen a [a, a, a] = 0 := by simp [plen, dst_self]
  exact ⟨hc, by omega⟩
theorem way_last : ∀ (l q : List Int) (a : Int), Cols l → In48 a → WayOf l q → In48 (q.getLastD a)
  | [], [], a, _, ha, _ => ha
  | c :: t, p :: s, a, hc, ha, h => by
    have e : (p :: s).getLastD a = s.getLastD p := by cases s <;> rfl
    rw [e]
    exact way_last t s p hc.tail (reach_in hc.head h.1) h.2
theorem rd_last {l : List Int} (a : Int) (h : 0 < l.length) : rd l ((l.length : Int) - 1) = l.getLastD a := by
  unfold rd
  rw [show ((l.length : Int) - 1).toNat = l.length - 1 by omega, List.getD_eq_getElem?_getD, List.getLastD_eq_getLast?, List.getLast?_eq_getElem?]
  rw [List.getElem?_eq_getElem (by omega)]
  rfl
theorem parts_j2 {a : Int} {A : List Int} (ha : In48 a) (hA : Cols A) (hl : A.length ≤ 40) (k : Nat) : observatorylaw13_MountParts.j2 (k + 1) true a A (pathV a A) (V A a) false = some true := by
  rw [observatorylaw13_MountParts.j2]
  have ho : Int.tmod (wrap64 (a + 64)) 32 = (a + 64) % 32 := by
    rw [wr (by have := ha.1; omega) (by have := ha.2; omega), Int.tmod_eq_emod_of_nonneg (by have := ha.1; omega)]
  obtain ⟨h1, h2⟩ := own_zero ha rfl
  rw [if_neg (by decide), ho, plan_ev ha (by simp) h1, h2]
  simp only [Option.bind_some]
  by_cases h : (A.length : Int) = 1
  · match A, h, hA with
    | [c], _, hA =>
      obtain ⟨p, hp, hpath, hv, hm⟩ := move_ev ha hA.head
      rw [if_pos (show (([c] : List Int).length : Int) = 1 by simp), if_pos (show 0 < (([c] : List Int).length : Int) by simp), show rd [c] 0 = c from rfl, hm, hpath, hv]
      simp [rd]
  · rw [if_neg h]
    simp
theorem parts_j1 {a : Int} {A B : List Int} (ha : In48 a) (hA : Cols A) (hB : Cols B) (hl : A.length + B.length ≤ 40) (k : Nat) : observatorylaw13_MountParts.j1 (k + 2) true a A B (pathV a A) (V A a) ((pathV a A).getLastD a) = some true := by
  rw [observatorylaw13_MountParts.j1]
  obtain ⟨hw, _⟩ := path_way A a (by omega) hA ha
  have he := way_last A _ a hA ha hw
  have hAB : Cols (A ++ B) := fun x hx => by
    rcases List.mem_append.1 hx with h | h
    · exact hA x h
    · exact hB x h
  have hlen : (A ++ B).length ≤ 40 := by rw [List.length_append]; omega
  obtain ⟨h1, h2⟩ := V_app_le A B a (by omega) hAB ha
  have b1 := V_bd A a hA ha
  have b2 := V_bd B _ hB he
  rw [plan_ev he (by omega) hB]
  simp only [Option.bind_some, List.nil_append, List.length_nil]
  have q1 : 0 + A.length < 17592186044416 := by omega
  have q2 : A.length + B.length < 17592186044416 := by omega
  rw [if_pos q1, if_pos q2, plan_ev ha hlen hAB]
  simp only [Option.bind_some]
  have q3 : ¬ V (A ++ B) a < V A a := by omega
  have q4 : ¬ V (A ++ B) a > V A a + V B ((pathV a A).getLastD a) := by omega
  rw [if_pos trivial, if_pos trivial, if_neg q3, wr (x := V A a + V B ((pathV a A).getLastD a)) (by omega) (by omega), decide_eq_false q4]
  exact parts_j2 ha hA (by omega) k
theorem parts_AB {a : Int} {A B : List Int} (ha : In48 a) (c1 : Cols A) (c2 : Cols B) (h : A.length + B.length ≤ 40) (k : Nat) : observatorylaw13_MountParts.j0 (k + 3) true a A B (pathV a A) (V A a) false = some true := by
  rw [observatorylaw13_MountParts.j0]
  rw [if_neg (by decide)]
  have hpl := path_len A a (by omega) c1 ha
  by_cases h0 : 0 < (pathV a A).length
  · rw [if_pos (by omega), wr (by omega) (by omega), if_pos (by omega), if_pos (by omega), rd_last a h0]
    exact parts_j1 ha c1 c2 h k
  · rw [if_neg (by omega)]
    have e : (pathV a A).getLastD a = a := by rw [List.eq_nil_of_length_eq_zero (l := pathV a A) (by omega)]; rfl
    have := parts_j1 ha c1 c2 h k
    rw [e] at this
    exact this
theorem parts_f {a0 a : Int} {l1 l2 A B : List Int} {k : Nat} (hp : observatorylaw13_position.f a0 = some a) (h1 : observatorylaw13_through.f (k + 3) l1 = some A) (h2 : observatorylaw13_through.f (k + 3) l2 = some B) (ha : In48 a) (c1 : Cols A) (c2 : Cols B) (hl : A.length + B.length ≤ 3000000) : observatorylaw13_MountParts.f (k + 3) a0 l1 l2 = some true := by
  unfold observatorylaw13_MountParts.f
  have hh : observatorylaw13_head.f = some true := rfl
  have hw : wrap64 ((A.length : Int) + (B.length : Int)) = (A.length : Int) + (B.length : Int) := wr (by omega) (by omega)
  rw [hh, hp, h1, h2, Option.bind_some, Option.bind_some, Option.bind_some, Option.bind_some, hw]
  by_cases h : A.length + B.length ≤ 40
  · have hpl := path_len A a (by omega) c1 ha
    have hne : (((pathV a A).length : Int) != (A.length : Int)) = false := by rw [hpl]; simp
    rw [if_neg (by omega), plan_ev ha (by omega) c1]
    simp only [Option.bind_some]
    rw [if_pos trivial, hne]
    exact parts_AB ha c1 c2 h k
  · rw [if_pos (by omega)]
theorem parts_pure (a0 : Int) (l1 l2 : List Int) (w0 : (Lit.int .u8 a0).wf = true) (hl1 : l1.length ≤ 1048576) (hw1 : ∀ x ∈ l1, (Lit.int .u8 x).wf = true) (hl2 : l2.length ≤ 1048576) (hw2 : ∀ x ∈ l2, (Lit.int .u8 x).wf = true) : ∃ k, observatorylaw13_MountParts.f k a0 l1 l2 = some true := by
  obtain ⟨b0, b1⟩ := Go.bounds_u8 w0
  obtain ⟨a, ha, hp⟩ := lpos_ev b0 b1
  have t1 := thr_len l1
  have t2 := thr_len l2
  obtain ⟨K, hK⟩ : ∃ K, K = l1.length + l2.length := ⟨_, rfl⟩
  have q1 := through_ev l1 hl1 (u8_bd hw1) (K + 3) (by omega)
  have q2 := through_ev l2 hl2 (u8_bd hw2) (K + 3) (by omega)
  exact ⟨K + 3, parts_f hp q1 q2 ha (thr_cols l1) (thr_cols l2) (by omega)⟩
theorem parts_walkU (a0 : Int) (a1 : Option Addr) (len1 cap1 : Nat) (z1 : List Int) (a2 : Option Addr) (len2 cap2 : Nat) (z2 : List Int) (w : World) (w0 : (Lit.int .u8 a0).wf = true) (w1 : (a1 = none ∧ len1 = 0 ∧ cap1 = 0 ∧ z1 = []) ∨ ∃ x, a1 = some x ∧ len1 ≤ cap1 ∧ cap1 ≤ maxLen ∧ z1.length = cap1 ∧ (∀ i, i < z1.length → w.cell? (x.add i) = some (.int .u8 (z1.getD i 0))) ∧ ∀ n ∈ z1, (Lit.int .u8 n).wf = true) (y1 : len1 ≤ 1048576) (w2 : (a2 = none ∧ len2 = 0 ∧ cap2 = 0 ∧ z2 = []) ∨ ∃ x, a2 = some x ∧ len2 ≤ cap2 ∧ cap2 ≤ maxLen ∧ z2.length = cap2 ∧ (∀ i, i < z2.length → w.cell? (x.add i) = some (.int .u8 (z2.getD i 0))) ∧ ∀ n ∈ z2, (Lit.int .u8 n).wf = true) (y2 : len2 ≤ 1048576) :
    Calls Try.prog 7 #[.int .u8 a0, .slice a1 len1 cap1, .slice a2 len2 cap2] w fun e w' => e = .returned (.bool true) ∧ Below w.heap.size w w' := by
  obtain ⟨l1, rfl, hr1, hm1, hw1, hc1⟩ := ReadsInt.ofRowC w1
  obtain ⟨l2, rfl, hr2, hm2, hw2, hc2⟩ := ReadsInt.ofRowC w2
  obtain ⟨k, h⟩ := parts_pure a0 l1 l2 w0 y1 hw1 y2 hw2
  refine (observatorylaw13_MountParts.calls k a0 _ _ l1 _ _ l2 true w rfl (Kd.C_of_reads (d := (0 : Int)) (h1 := fun _ => rfl) hr1) hc1 (Kd.C_of_reads (d := (0 : Int)) (h1 := fun _ => rfl) hr2) hc2 h).mono ?_
  rintro e w' ⟨rfl, hd⟩
  exact ⟨rfl, hd⟩
end Go.Proofs.Ytopbajcnihboiaa.Px
