/- The law MountLimits in plain Lean. -/
import Derived.Test.YtopbajcnihboiaaPlC
import Derived.Test.YtopbajcnihboiaaPxx23
import Derived.OpenShut
namespace Go.Proofs.Ytopbajcnihboiaa.Px
open Go.RowKit Go.Proofs.YtopbajcnihboiaaW.PrintWords Go.Proofs.YtopbajcnihboiaaW.PrintLast Go.Proofs.YtopbajcnihboiaaW.PrintMore
set_option linter.unusedVariables false
set_option linter.unusedSimpArgs false
theorem lpos_all : ((List.range 256).all fun n => observatorylaw13_position.f (n : Int) == some (((n % 97 : Nat) : Int) - 48)) = true := by kernel_rfl
theorem lpos_ev {a : Int} (h0 : 0 ≤ a) (h1 : a ≤ 255) : ∃ p : Int, In48 p ∧ observatorylaw13_position.f a = some p := by
  have h := List.all_eq_true.1 lpos_all a.toNat (List.mem_range.2 (by omega))
  rw [Int.toNat_of_nonneg h0] at h
  have h2 := Nat.mod_lt a.toNat (show 97 > 0 by omega)
  exact ⟨((a.toNat % 97 : Nat) : Int) - 48, ⟨by omega, by omega⟩, eq_of_beq h⟩
theorem u8_bd {l : List Int} (h : ∀ x ∈ l, (Lit.int .u8 x).wf = true) : ∀ x ∈ l, 0 ≤ x ∧ x ≤ 255 := fun x hx => Go.bounds_u8 (h x hx)
theorem opp_tm {c : Int} (h : 0 ≤ c ∧ c ≤ 31) : Int.tmod (wrap64 (32 - c)) 32 = opp c := by
  rw [wr (by omega) (by omega), Int.tmod_eq_emod_of_nonneg (by omega)]
  rfl
theorem limits_l0 (cols : List Int) (a : Int) (hc : Cols cols) (hl : cols.length ≤ 40) (ha : In48 a) : ∀ (d i : Nat) (g le now colm : Int) (os : List Int), i + d = cols.length → os = (cols.take i).map opp → In48 now → -48 ≤ colm → colm ≤ 48 → 0 ≤ g → g ≤ 100 * (i : Int) → 0 ≤ le → le ≤ 100 * (i : Int) → V cols a ≤ g + V (cols.drop i) now → le + circ colm (cols.drop i) ≤ V cols a → ∀ k, d < k → observatorylaw13_MountLimits.l0 k true a cols (V cols a) g le now colm os (i : Int) = some true
  | 0, i, g, le, now, colm, os, h, ho, hn, _, _, _, _, _, _, h1, h2, k + 1, _ => by
    unfold observatorylaw13_MountLimits.l0
    rw [List.drop_of_length_le (by omega)] at h1 h2
    rw [V_nil hn] at h1
    have h3 : circ colm [] = 0 := rfl
    rw [h3] at h2
    rw [List.take_of_length_le (by omega)] at ho
    subst ho
    have hna : In48 (-a) := ⟨by have := ha.2; omega, by have := ha.1; omega⟩
    rw [if_neg (by omega), wr (by have := ha.2; omega) (by have := ha.1; omega), plan_ev hna (by simpa using hl) (opp_cols hc)]
    simp only [Option.bind_some]
    rw [if_pos trivial, if_pos (by omega), if_pos (by omega), if_pos trivial, V_opp cols a (by omega) hc ha]
    simp
  | d + 1, i, g, le, now, colm, os, h, ho, hn, c0, c1, g0, g1, l0, l1, h1, h2, k + 1, hk => by
    unfold observatorylaw13_MountLimits.l0
    have hi : i < cols.length := by omega
    have hcc := hc _ (rd_mem hi)
    have hdr := drop_rd hi
    have htk : cols.take (i + 1) = cols.take i ++ [rd cols (i : Int)] := by
      rw [List.take_succ_eq_append_getElem hi]
      simp [rd, hi]
    generalize rd cols (i : Int) = c at hcc hdr htk
    obtain ⟨p, hp, _, hv, hm⟩ := move_ev hn hcc
    have hpi := reach_in hcc hp
    have hd := dst_bd hn hpi
    have ha1 := arnd_bd (x := colm) (y := c) (by omega) (by omega)
    have hV := V_le (t := cols.drop (i + 1)) hn hp
    rw [hdr] at h1 h2
    have h2' : le + (arnd colm c + circ c (cols.drop (i + 1))) ≤ V cols a := h2
    have hol : os.length < 17592186044416 := by
      rw [ho, List.length_map, List.length_take]
      omega
    rw [if_pos (by omega), if_pos (by omega), hm, around_ev (by omega) (by omega)]
    simp only [Option.bind_some]
    rw [if_pos trivial, if_pos hol, wr (x := g + dst now p) (by omega) (by omega), wr (x := le + arnd colm c) (by omega) (by omega), opp_tm hcc, wr (x := (i : Int) + 1) (by omega) (by omega), show (i : Int) + 1 = ((i + 1 : Nat) : Int) by omega]
    exact limits_l0 cols a hc hl ha d (i + 1) _ _ p c _ (by omega) (by rw [ho, htk, List.map_append]; rfl) hpi (by omega) (by omega) (by omega) (by omega) (by omega) (by omega) (by omega) (by omega) k (by omega)
theorem limits_pure (a0 : Int) (l1 : List Int) (w0 : (Lit.int .u8 a0).wf = true) (hl : l1.length ≤ 1048576) (hw : ∀ x ∈ l1, (Lit.int .u8 x).wf = true) : ∃ k, observatorylaw13_MountLimits.f k a0 l1 = some true := by
  obtain ⟨b0, b1⟩ := Go.bounds_u8 w0
  obtain ⟨a, ha, hp⟩ := lpos_ev b0 b1
  refine ⟨l1.length + 50, ?_⟩
  unfold observatorylaw13_MountLimits.f
  rw [show observatorylaw13_head.f = some true from rfl, hp, through_ev l1 hl (u8_bd hw) _ (by omega)]
  simp only [Option.bind_some]
  by_cases h : (thr l1).length ≤ 40
  · rw [plan_ev ha h (thr_cols l1)]
    simp only [Option.bind_some]
    rw [if_neg (by omega), if_pos trivial]
    have hV := V_bd (thr l1) a (thr_cols l1) ha
    have hc := circ_le (thr l1) a a (by omega) (thr_cols l1) ha (by omega)
    exact limits_l0 (thr l1) a (thr_cols l1) h ha (thr l1).length 0 0 0 a a [] (by omega) rfl ha ha.1 ha.2 (Int.le_refl _) (by omega) (Int.le_refl _) (by omega) (by rw [List.drop_zero]; omega) (by rw [List.drop_zero]; omega) _ (by omega)
  · rw [plan_far (by omega)]
    simp only [Option.bind_some]
    rw [if_pos (by omega)]
    rfl
theorem limits_walkU (a0 : Int) (a1 : Option Addr) (len1 cap1 : Nat) (z1 : List Int) (w : World) (w0 : (Lit.int .u8 a0).wf = true) (w1 : (a1 = none ∧ len1 = 0 ∧ cap1 = 0 ∧ z1 = []) ∨ ∃ x, a1 = some x ∧ len1 ≤ cap1 ∧ cap1 ≤ maxLen ∧ z1.length = cap1 ∧ (∀ i, i < z1.length → w.cell? (x.add i) = some (.int .u8 (z1.getD i 0))) ∧ ∀ n ∈ z1, (Lit.int .u8 n).wf = true) (y1 : len1 ≤ 1048576) :
    Calls Try.prog 6 #[.int .u8 a0, .slice a1 len1 cap1] w fun e w' => e = .returned (.bool true) ∧ Below w.heap.size w w' := by
  obtain ⟨l1, rfl, hr1, hm1, hw1, hc1⟩ := ReadsInt.ofRowC w1
  obtain ⟨k, h⟩ := limits_pure a0 l1 w0 y1 hw1
  refine (observatorylaw13_MountLimits.calls k a0 _ _ l1 true w rfl (Kd.C_of_reads (d := (0 : Int)) (h1 := fun _ => rfl) hr1) hc1 h).mono ?_
  rintro e w' ⟨rfl, hd⟩
  exact ⟨rfl, hd⟩
end Go.Proofs.Ytopbajcnihboiaa.Px
