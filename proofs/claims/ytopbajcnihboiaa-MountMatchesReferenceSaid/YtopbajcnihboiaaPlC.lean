/- The laws' words in plain Lean: through, Move, Plan, around. -/
import Derived.Test.YtopbajcnihboiaaPlB
import Derived.Test.YtopbajcnihboiaaPxx7
import Derived.Test.YtopbajcnihboiaaPxx19
import Derived.Test.YtopbajcnihboiaaPxx21
namespace Go.Proofs.Ytopbajcnihboiaa.Px
open Go.RowKit Go.Proofs.YtopbajcnihboiaaW.PrintWords Go.Proofs.YtopbajcnihboiaaW.PrintLast Go.Proofs.YtopbajcnihboiaaW.PrintMore
set_option linter.unusedVariables false
set_option linter.unusedSimpArgs false
theorem wr {x : Int} (h0 : -9223372036854775808 ≤ x) (h1 : x ≤ 9223372036854775807) : wrap64 x = x := by
  rw [← i64_w]
  exact IntWalk.i64_in _ (by omega)
def thr (l : List Int) : List Int := l.map (· % 32)
theorem tm32 {x : Int} (h0 : 0 ≤ x) (h1 : x ≤ 255) : Int.tmod (wrap64 x) 32 = x % 32 := by
  rw [wr (by omega) (by omega), Int.tmod_eq_emod_of_nonneg h0]
theorem through_l0 (l : List Int) (hl : l.length ≤ 1048576) (hb : ∀ x ∈ l, 0 ≤ x ∧ x ≤ 255) : ∀ (d i : Nat) (acc : List Int), i + d = l.length → acc.length ≤ i → ∀ k, d < k → observatorylaw13_through.l0 k l acc (i : Int) = some (acc ++ thr (l.drop i))
  | 0, i, acc, h, _, k + 1, _ => by
    unfold observatorylaw13_through.l0
    rw [if_neg (by omega), List.drop_of_length_le (by omega)]
    simp [thr]
  | d + 1, i, acc, h, ha, k + 1, hk => by
    unfold observatorylaw13_through.l0
    have hi : i < l.length := by omega
    have hx := hb _ (rd_mem hi)
    rw [if_pos (by omega), if_pos (by omega), if_pos (by omega), tm32 hx.1 hx.2, wr (by omega) (by omega), show (i : Int) + 1 = ((i + 1 : Nat) : Int) by omega]
    rw [through_l0 l hl hb d (i + 1) _ (by omega) (by rw [List.length_append, List.length_singleton]; omega) k (by omega), drop_rd hi]
    simp [thr]
theorem through_ev (l : List Int) (hl : l.length ≤ 1048576) (hb : ∀ x ∈ l, 0 ≤ x ∧ x ≤ 255) (k : Nat) (hk : l.length < k) : observatorylaw13_through.f k l = some (thr l) := by
  unfold observatorylaw13_through.f
  have := through_l0 l hl hb l.length 0 [] (by omega) (Nat.le_refl _) k hk
  rw [List.nil_append, List.drop_zero] at this
  exact this
theorem thr_cols (l : List Int) : Cols (thr l) := by
  intro c hc
  obtain ⟨x, _, rfl⟩ := List.mem_map.1 hc
  omega
theorem thr_len (l : List Int) : (thr l).length = l.length := by simp [thr]
theorem plan_ev {a : Int} {l : List Int} (ha : In48 a) (hl : l.length ≤ 40) (hc : Cols l) : mount_Plan.f a l = some (pathV a l, V l a, 0) := by
  have h1 : inB a = true := decide_eq_true ha
  have h2 : l.all colB = true := List.all_eq_true.2 (fun c h => decide_eq_true (hc c h))
  unfold mount_Plan.f planV
  rw [h1, h2, decide_eq_true hl]
  rfl
theorem plan_far {a : Int} {l : List Int} (hl : 40 < l.length) : mount_Plan.f a l = some ([], 0, 1) := by
  unfold mount_Plan.f planV
  rw [decide_eq_false (show ¬ l.length ≤ 40 by omega), Bool.and_false, Bool.false_and]
  rfl
/-- one column: a position of it, the nearest. -/
theorem move_ev {a c : Int} (ha : In48 a) (hc : 0 ≤ c ∧ c ≤ 31) : ∃ p, p ∈ reachV c ∧ pathV a [c] = [p] ∧ V [c] a = dst a p ∧ mount_Move.f a c = some (p, dst a p, 0) := by
  have hcs : Cols [c] := fun x hx => by rcases List.mem_cons.1 hx with rfl | h; exact hc; cases h
  obtain ⟨p, hp, h, hv, _⟩ := path_cons (t := []) (Nat.zero_le _) hcs ha
  rw [V_nil (reach_in hc hp)] at hv
  have hpath : pathV a [c] = [p] := h
  have hv' : V [c] a = dst a p := by omega
  refine ⟨p, hp, hpath, hv', ?_⟩
  unfold mount_Move.f
  rw [plan_ev ha (by simp) hcs, hpath, hv']
  rfl
def arnd (x y : Int) : Int := mn (dst x y % 32) (32 - dst x y % 32)
theorem around_ev {x y : Int} (h0 : -1000 ≤ x ∧ x ≤ 1000) (h1 : -1000 ≤ y ∧ y ≤ 1000) : observatorylaw13_around.f x y = some (arnd x y) := by
  have hd : 0 ≤ dst x y ∧ dst x y ≤ 2000 := by unfold dst mx; split <;> omega
  unfold observatorylaw13_around.f observatorylaw13_dist.f
  rw [wr (x := x - y) (by omega) (by omega), wr (x := y - x) (by omega) (by omega)]
  show some (mn (Int.tmod (dst x y) 32) (wrap64 (32 - Int.tmod (dst x y) 32))) = _
  rw [Int.tmod_eq_emod_of_nonneg hd.1, wr (by omega) (by omega)]
  rfl
theorem ldist_ev {x y : Int} (h0 : -1000 ≤ x ∧ x ≤ 1000) (h1 : -1000 ≤ y ∧ y ≤ 1000) : observatorylaw13_dist.f x y = some (dst x y) := by
  unfold observatorylaw13_dist.f
  rw [wr (x := x - y) (by omega) (by omega), wr (x := y - x) (by omega) (by omega)]
  rfl
theorem arnd_le {x y a p : Int} (h0 : (a - x) % 32 = 0) (h1 : (p - y) % 32 = 0) : arnd x y ≤ dst a p := by
  unfold arnd mn dst mx
  split <;> split <;> split <;> omega
theorem arnd_bd {x y : Int} (h0 : -1000 ≤ x ∧ x ≤ 1000) (h1 : -1000 ≤ y ∧ y ≤ 1000) : 0 ≤ arnd x y ∧ arnd x y ≤ 32 := by
  have hd : 0 ≤ dst x y ∧ dst x y ≤ 2000 := by unfold dst mx; split <;> omega
  unfold arnd mn
  split <;> omega
def circ : Int → List Int → Int
  | _, [] => 0
  | x, c :: t => arnd x c + circ c t
theorem circ_le : ∀ (l : List Int) (x a : Int), l.length ≤ 1000 → Cols l → In48 a → (a - x) % 32 = 0 → circ x l ≤ V l a
  | [], x, a, _, _, ha, _ => by rw [V_nil ha]; exact Int.le_refl _
  | c :: t, x, a, hl, hc, ha, hx => by
    rw [List.length_cons] at hl
    obtain ⟨p, hp, hv⟩ := V_ex (t := t) (by omega) hc ha
    have hpc := (reach_iff hc.head (reach_in hc.head hp)).1 hp
    have h1 := arnd_le hx hpc
    have h2 := circ_le t c p (by omega) hc.tail (reach_in hc.head hp) hpc
    show arnd x c + circ c t ≤ _
    omega
end Go.Proofs.Ytopbajcnihboiaa.Px
