/- The law MountPlans in plain Lean. -/
import Derived.Test.YtopbajcnihboiaaPlD
import Derived.Test.YtopbajcnihboiaaPxx22
namespace Go.Proofs.Ytopbajcnihboiaa.Px
open Go.RowKit Go.Proofs.YtopbajcnihboiaaW.PrintWords Go.Proofs.YtopbajcnihboiaaW.PrintLast Go.Proofs.YtopbajcnihboiaaW.PrintMore
set_option linter.unusedVariables false
set_option linter.unusedSimpArgs false
theorem reach_evk {c : Int} (hc : 0 ≤ c ∧ c ≤ 31) : ∀ d : Nat, mount_Reach.f (6 + d) c = some (reachV c, 0)
  | 0 => reach_ev c hc.1 hc.2
  | d + 1 => mount_Reach.mono c (6 + d) _ (reach_evk hc d)
theorem reach_pos (c : Int) : 3 ≤ (reachV c).length := by
  unfold reachV
  split
  · simp
  · split <;> simp
def ordN (o p q : Int) : Int := if o = 0 then (if q < p then -1 else if q > p then 1 else 0) else o
def lexC (o : Int) (p q : List Int) : Int := if o = 0 then lexo p q else o
theorem lexo_cons (p q : Int) (s u : List Int) : lexo (p :: s) (q :: u) = if q < p then -1 else if q > p then 1 else lexo s u := by
  rw [lexo]
theorem lexC_cons (o p q : Int) (s u : List Int) : lexC o (p :: s) (q :: u) = lexC (ordN o p q) s u := by
  unfold lexC ordN
  by_cases h : o = 0
  · rw [if_pos h, if_pos h, lexo_cons]
    by_cases h1 : q < p
    · rw [if_pos h1, if_pos h1, if_neg (by decide)]
    · rw [if_neg h1, if_neg h1]
      by_cases h2 : q > p
      · rw [if_pos h2, if_pos h2, if_neg (by decide)]
      · rw [if_neg h2, if_neg h2, if_pos rfl]
  · rw [if_neg h, if_neg h, if_neg h]
theorem lexC_nil (o : Int) : lexC o [] [] = o := by
  unfold lexC
  split
  · rename_i h
    rw [h]
    rfl
  · rfl
theorem plans_j7 (k : Nat) (x2 cols P : List Int) (n ln oth fr tw o q : Int) (i : Nat) (fl : Bool) (hi : i < P.length) (hP : P.length ≤ 1000) (hp : In48 (rd P (i : Int))) (hf : In48 fr) (ht : In48 tw) (hq : In48 q) (b0 : 0 ≤ ln ∧ ln ≤ 100 * (i : Int)) (b1 : 0 ≤ oth ∧ oth ≤ 100 * (i : Int)) :
    observatorylaw13_MountPlans.j7 (k + 1) x2 true cols P n ln oth fr tw o (i : Int) q fl = observatorylaw13_MountPlans.l0 k x2 true cols P n (ln + dst fr (rd P (i : Int))) (oth + dst tw q) (rd P (i : Int)) q (if fl = true then 1 else o) ((i + 1 : Nat) : Int) := by
  have hd1 := dst_bd hf hp
  have hd2 := dst_bd ht hq
  have e1 := ldist_ev (x := fr) (y := rd P (i : Int)) (by have := hf.1; have := hf.2; omega) (by have := hp.1; have := hp.2; omega)
  have e2 := ldist_ev (x := tw) (y := q) (by have := ht.1; have := ht.2; omega) (by have := hq.1; have := hq.2; omega)
  have q0 : (0 : Int) ≤ (i : Int) := by omega
  have q1 : (i : Int) < (P.length : Int) := by omega
  have w1 : wrap64 (ln + dst fr (rd P (i : Int))) = ln + dst fr (rd P (i : Int)) := wr (by omega) (by omega)
  have w2 : wrap64 (oth + dst tw q) = oth + dst tw q := wr (by omega) (by omega)
  have w3 : wrap64 ((i : Int) + 1) = ((i + 1 : Nat) : Int) := by rw [wr (by omega) (by omega)]; omega
  rw [observatorylaw13_MountPlans.j7]
  cases fl with
  | true => rw [if_pos rfl, if_pos q0, if_pos q1, e1, Option.bind_some, e2, Option.bind_some, w1, w2, w3, if_pos rfl]
  | false => rw [if_neg (by decide), if_pos q0, if_pos q1, e1, Option.bind_some, e2, Option.bind_some, w1, w2, w3, if_neg (by decide)]
theorem plans_j4 (k : Nat) (x2 cols P : List Int) (n ln oth fr tw o q : Int) (i : Nat) (hi : i < P.length) (hP : P.length ≤ 1000) (hp : In48 (rd P (i : Int))) (hf : In48 fr) (ht : In48 tw) (hq : In48 q) (b0 : 0 ≤ ln ∧ ln ≤ 100 * (i : Int)) (b1 : 0 ≤ oth ∧ oth ≤ 100 * (i : Int)) :
    observatorylaw13_MountPlans.j4 (k + 4) x2 true cols P n ln oth fr tw o (i : Int) q = observatorylaw13_MountPlans.l0 k x2 true cols P n (ln + dst fr (rd P (i : Int))) (oth + dst tw q) (rd P (i : Int)) q (ordN o (rd P (i : Int)) q) ((i + 1 : Nat) : Int) := by
  have h7 := fun (o' : Int) (fl : Bool) => plans_j7 k x2 cols P n ln oth fr tw o' q i fl hi hP hp hf ht hq b0 b1
  have q0 : (0 : Int) ≤ (i : Int) := by omega
  have q1 : (i : Int) < (P.length : Int) := by omega
  rw [observatorylaw13_MountPlans.j4]
  unfold ordN
  by_cases h : o = 0
  · rw [if_pos h, if_pos q0, if_pos q1, if_pos h, observatorylaw13_MountPlans.j5]
    by_cases h1 : q < rd P (i : Int)
    · rw [if_pos (decide_eq_true h1), if_pos h1, observatorylaw13_MountPlans.j6, if_neg (by decide), h7, if_neg (by decide)]
    · rw [if_neg (by simpa using h1), if_neg h1, observatorylaw13_MountPlans.j6, if_pos h, if_pos q0, if_pos q1, h7]
      by_cases h2 : q > rd P (i : Int)
      · rw [if_pos (decide_eq_true h2), if_pos h2]
      · rw [if_neg (by simpa using h2), if_neg h2, h]
  · rw [if_neg h, if_neg h, observatorylaw13_MountPlans.j5, if_neg (by decide), observatorylaw13_MountPlans.j6, if_neg h, h7, if_neg (by decide)]
theorem plans_l0 (x2 cols P : List Int) (n : Int) (hx : ∀ x ∈ x2, 0 ≤ x ∧ x ≤ 255) (hc : Cols cols) (hl : cols.length ≤ 40) (hP : P.length = cols.length) : ∀ (d i : Nat) (ln oth fr tw o : Int), i + d = cols.length → P.drop i = pathV fr (cols.drop i) → In48 fr → In48 tw → ln + V (cols.drop i) fr = n → 0 ≤ ln → ln ≤ 100 * (i : Int) → 0 ≤ oth → oth ≤ 100 * (i : Int) → (∀ s, WayOf (cols.drop i) s → n ≤ oth + plen tw s ∧ (oth + plen tw s = n → 0 ≤ lexC o (P.drop i) s)) → ∀ k, 7 * d + 20 ≤ k → observatorylaw13_MountPlans.l0 k x2 true cols P n ln oth fr tw o (i : Int) = some true
  | 0, i, ln, oth, fr, tw, o, h, hd, hf, ht, hv, a0, a1, c0, c1, hI, k + 1, _ => by
    rw [observatorylaw13_MountPlans.l0]
    rw [List.drop_of_length_le (by omega)] at hv
    rw [V_nil hf] at hv
    have hdn : cols.drop i = [] := List.drop_of_length_le (by omega)
    rw [hdn] at hI
    have hpd : P.drop i = [] := List.drop_of_length_le (by omega)
    rw [hpd] at hI
    obtain ⟨h1, h2⟩ := hI [] trivial
    rw [lexC_nil] at h2
    have h3 : plen tw [] = 0 := rfl
    rw [h3] at h1 h2
    rw [if_neg (by omega), if_pos rfl, if_pos (by omega)]
    by_cases e : oth > n
    · rw [if_pos e]
    · rw [if_neg e, if_pos (by omega), decide_eq_true (h2 (by omega))]
  | d + 1, i, ln, oth, fr, tw, o, h, hd, hf, ht, hv, a0, a1, c0, c1, hI, 0, hk => by omega
  | d + 1, i, ln, oth, fr, tw, o, h, hd, hf, ht, hv, a0, a1, c0, c1, hI, k + 1, hk => by
    rw [observatorylaw13_MountPlans.l0]
    have hi : i < cols.length := by omega
    have hcc := hc _ (rd_mem hi)
    have hdr := drop_rd hi
    have hdp := drop_rd (l := P) (j := i) (by omega)
    have hct : Cols (cols.drop i) := fun x hx => hc x (List.mem_of_mem_drop hx)
    generalize hce : rd cols (i : Int) = c at hcc hdr
    rw [hdr] at hct
    obtain ⟨p, hp, hpath, hv1, _⟩ := path_cons (t := cols.drop (i + 1)) (a := fr) (by rw [List.length_drop]; omega) hct hf
    rw [hdr, hpath, hdp] at hd
    obtain ⟨hpe, hd'⟩ := List.cons.inj hd
    have hpi := reach_in hcc hp
    have hpm := (reach_iff hcc hpi).1 hp
    have hpd1 := dst_bd hf hpi
    rw [hdr, hv1] at hv
    have q0 : (0 : Int) ≤ (i : Int) := by omega
    have q1 : (i : Int) < (P.length : Int) := by omega
    have q2 : (i : Int) < (cols.length : Int) := by omega
    have hlen := reach_pos c
    have hlen4 := reachV_len c
    rw [if_pos q1, if_pos q0, hpe, if_neg (by have := hpi.1; omega), if_neg (by have := hpi.2; omega), if_pos q2]
    have htm : (Int.tmod (wrap64 (p + 64)) 32 != c) = false := by
      have : Int.tmod (wrap64 (p + 64)) 32 = c := by
        rw [wr (by have := hpi.1; omega) (by have := hpi.2; omega), Int.tmod_eq_emod_of_nonneg (by have := hpi.1; omega)]
        omega
      rw [this]
      simp
    rw [htm]
    obtain ⟨m, rfl⟩ : ∃ m, k = m + 6 := ⟨k - 6, by omega⟩
    rw [observatorylaw13_MountPlans.j2, if_neg (by decide), if_pos q0, if_pos q2, hce, show m + 5 = 6 + (m - 1) by omega, reach_evk hcc (m - 1), show 6 + (m - 1) = m + 5 by omega]
    rw [Option.bind_some, if_pos rfl]
    have hne : (((reachV c).length : Int) == 0) = false := beq_eq_false_iff_ne.2 (by omega)
    rw [hne, observatorylaw13_MountPlans.j3, if_neg (by decide), if_pos q0, if_pos q1]
    have fin : ∀ q, q ∈ reachV c → observatorylaw13_MountPlans.j4 (m + 4) x2 true cols P n ln oth fr tw o (i : Int) q = some true := fun q hq => by
      have hqi := reach_in hcc hq
      have hqd := dst_bd ht hqi
      rw [plans_j4 m x2 cols P n ln oth fr tw o q i (by omega) (by omega) (by rw [hpe]; exact hpi) hf ht hqi ⟨a0, a1⟩ ⟨c0, c1⟩, hpe]
      refine plans_l0 x2 cols P n hx hc hl hP d (i + 1) _ _ p q _ (by omega) hd' hpi hqi (by omega) (by omega) (by omega) (by omega) (by omega) ?_ m (by omega)
      intro s hs
      have := hI (q :: s) (by rw [hdr]; exact ⟨hq, hs⟩)
      rw [hdp, hpe, lexC_cons] at this
      have e : plen tw (q :: s) = dst tw q + plen q s := rfl
      rw [e] at this
      rw [Int.add_assoc]
      exact this
    by_cases hx2 : (i : Int) < (x2.length : Int)
    · have hxb := hx _ (rd_mem (l := x2) (j := i) (by omega))
      have ht0 : Int.tmod (wrap64 (rd x2 (i : Int))) ((reachV c).length : Int) = rd x2 (i : Int) % ((reachV c).length : Int) := by
        rw [wr (by omega) (by omega), Int.tmod_eq_emod_of_nonneg hxb.1]
      have ht1 := Int.emod_nonneg (rd x2 (i : Int)) (show ((reachV c).length : Int) ≠ 0 by omega)
      have ht2 := Int.emod_lt_of_pos (rd x2 (i : Int)) (show 0 < ((reachV c).length : Int) by omega)
      rw [if_pos hx2, if_neg (show ¬ ((reachV c).length : Int) = 0 by omega), ht0, if_pos ht1, if_pos ht2]
      refine fin _ ?_
      generalize rd x2 (i : Int) % ((reachV c).length : Int) = z at *
      have := rd_mem (l := reachV c) (j := z.toNat) (by omega)
      rw [Int.toNat_of_nonneg ht1] at this
      exact this
    · rw [if_neg hx2, hpe]
      exact fin p hp
theorem plans_f {a0 a : Int} {l1 l2 A : List Int} {k : Nat} (hk : 400 ≤ k) (hp : observatorylaw13_position.f a0 = some a) (h1 : observatorylaw13_through.f k l1 = some A) (hx : ∀ x ∈ l2, 0 ≤ x ∧ x ≤ 255) (ha : In48 a) (c1 : Cols A) : observatorylaw13_MountPlans.f k a0 l1 l2 = some true := by
  unfold observatorylaw13_MountPlans.f
  have hh : observatorylaw13_head.f = some true := rfl
  rw [hh, hp, h1, Option.bind_some, Option.bind_some, Option.bind_some]
  by_cases h : A.length ≤ 40
  · have hpl := path_len A a (by omega) c1 ha
    have hne : (((pathV a A).length : Int) != (A.length : Int)) = false := by rw [hpl]; simp
    rw [plan_ev ha h c1, Option.bind_some, if_neg (by omega), if_pos rfl, hne]
    obtain ⟨k', rfl⟩ : ∃ k', k = k' + 1 := ⟨k - 1, by omega⟩
    rw [observatorylaw13_MountPlans.j0, if_neg (by decide)]
    refine plans_l0 l2 A (pathV a A) (V A a) hx c1 h hpl A.length 0 0 0 a a 0 (by omega) rfl ha ha (by rw [List.drop_zero]; omega) (Int.le_refl _) (by omega) (Int.le_refl _) (by omega) ?_ k' (by omega)
    intro s hs
    rw [List.drop_zero] at hs ⊢
    have m1 := V_min A s a c1 ha hs
    refine ⟨by omega, fun e => ?_⟩
    have m2 := V_first A s a (by omega) c1 ha hs (by omega)
    exact m2
  · rw [plan_far (by omega), Option.bind_some, if_pos (by omega), if_pos rfl, if_pos rfl]
    rfl
theorem plans_pure (a0 : Int) (l1 l2 : List Int) (w0 : (Lit.int .u8 a0).wf = true) (hl1 : l1.length ≤ 1048576) (hw1 : ∀ x ∈ l1, (Lit.int .u8 x).wf = true) (hl2 : l2.length ≤ 1048576) (hw2 : ∀ x ∈ l2, (Lit.int .u8 x).wf = true) : ∃ k, observatorylaw13_MountPlans.f k a0 l1 l2 = some true := by
  obtain ⟨b0, b1⟩ := Go.bounds_u8 w0
  obtain ⟨a, ha, hp⟩ := lpos_ev b0 b1
  obtain ⟨K, hK⟩ : ∃ K, K = l1.length + 400 := ⟨_, rfl⟩
  have q1 := through_ev l1 hl1 (u8_bd hw1) K (by omega)
  exact ⟨K, plans_f (by omega) hp q1 (u8_bd hw2) ha (thr_cols l1)⟩
theorem plans_walkU (a0 : Int) (a1 : Option Addr) (len1 cap1 : Nat) (z1 : List Int) (a2 : Option Addr) (len2 cap2 : Nat) (z2 : List Int) (w : World) (w0 : (Lit.int .u8 a0).wf = true) (w1 : (a1 = none ∧ len1 = 0 ∧ cap1 = 0 ∧ z1 = []) ∨ ∃ x, a1 = some x ∧ len1 ≤ cap1 ∧ cap1 ≤ maxLen ∧ z1.length = cap1 ∧ (∀ i, i < z1.length → w.cell? (x.add i) = some (.int .u8 (z1.getD i 0))) ∧ ∀ n ∈ z1, (Lit.int .u8 n).wf = true) (y1 : len1 ≤ 1048576) (w2 : (a2 = none ∧ len2 = 0 ∧ cap2 = 0 ∧ z2 = []) ∨ ∃ x, a2 = some x ∧ len2 ≤ cap2 ∧ cap2 ≤ maxLen ∧ z2.length = cap2 ∧ (∀ i, i < z2.length → w.cell? (x.add i) = some (.int .u8 (z2.getD i 0))) ∧ ∀ n ∈ z2, (Lit.int .u8 n).wf = true) (y2 : len2 ≤ 1048576) :
    Calls Try.prog 5 #[.int .u8 a0, .slice a1 len1 cap1, .slice a2 len2 cap2] w fun e w' => e = .returned (.bool true) ∧ Below w.heap.size w w' := by
  obtain ⟨l1, rfl, hr1, hm1, hw1, hc1⟩ := ReadsInt.ofRowC w1
  obtain ⟨l2, rfl, hr2, hm2, hw2, hc2⟩ := ReadsInt.ofRowC w2
  obtain ⟨k, h⟩ := plans_pure a0 l1 l2 w0 y1 hw1 y2 hw2
  refine (observatorylaw13_MountPlans.calls k a0 _ _ l1 _ _ l2 true w rfl (Kd.C_of_reads (d := (0 : Int)) (h1 := fun _ => rfl) hr1) hc1 (Kd.C_of_reads (d := (0 : Int)) (h1 := fun _ => rfl) hr2) hc2 h).mono ?_
  rintro e w' ⟨rfl, hd⟩
  exact ⟨rfl, hd⟩
end Go.Proofs.Ytopbajcnihboiaa.Px
