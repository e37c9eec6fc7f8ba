/- The columns before: walked. -/
import Derived.Test.YtopbajcnihboiaaPxx3
import Derived.Test.YtopbajcnihboiaaPxx4
import Derived.Deep.DeepCutAuto
import Derived.Deep.CutBlock
namespace Go.Proofs.Ytopbajcnihboiaa.Px
open Go.RowKit Go.Proofs.YtopbajcnihboiaaW.PrintWords Go.Proofs.YtopbajcnihboiaaW.PrintLast Go.Proofs.YtopbajcnihboiaaW.PrintMore
set_option linter.unusedVariables false
set_option linter.unusedSimpArgs false
/-! ### plain -/
def dst (a b : Int) : Int := mx (a - b) (b - a)
def reachV (c : Int) : List Int := if c < 16 then [c - 32, c, c + 32] else if c = 16 then [-48, -16, 16, 48] else [c - 64, c - 32, c]
theorem reach_all : ((List.range 32).all fun c => mount_Reach.f 6 (c : Int) == some (reachV (c : Int), 0)) = true := by kernel_rfl
theorem reach_ev (c : Int) (h0 : 0 ≤ c) (h1 : c ≤ 31) : mount_Reach.f 6 c = some (reachV c, 0) := by
  have h := List.all_eq_true.1 reach_all c.toNat (List.mem_range.2 (by omega))
  rw [Int.toNat_of_nonneg h0] at h
  exact eq_of_beq h
theorem reachV_mem {c p : Int} (h0 : 0 ≤ c) (h1 : c ≤ 31) (h : p ∈ reachV c) : -48 ≤ p ∧ p ≤ 48 ∧ (p - c) % 32 = 0 := by
  unfold reachV at h
  split at h
  · simp at h; omega
  · split at h
    · simp at h; omega
    · simp at h; omega
theorem reachV_len (c : Int) : (reachV c).length ≤ 4 := by
  unfold reachV
  split
  · simp
  · split <;> simp
def ar (l : List Int) : Array Value := (l.map (Value.int .i64)).toArray
theorem ar_get (l : List Int) (i : Nat) (h : i < l.length) : (ar l)[i]? = some (.int .i64 (rd l (i : Int))) := by
  simp [ar, rd, h]
theorem ar_set (l : List Int) (i : Nat) (x : Int) : (ar l).setIfInBounds i (.int .i64 x) = ar (l.set i x) := by
  simp [ar]
def Z97 : List Int := List.replicate 97 0
def cost (on : List Int) (i : Int) (p : Int) : Int := dst (i - 48) p + rd on (p + 48)
def best (on : List Int) (i : Int) (l : List Int) : Int := l.foldl (fun m p => mn m (cost on i p)) 1073741824
def bef (l on : List Int) : List Int := (List.range 97).map (fun (i : Nat) => best on (i : Int) l)
def BefP (w : World) (l on : List Int) (e : Ending) (w' : World) : Prop := ∃ g', e = .returned (.pointer (some ⟨g', 0, none⟩)) ∧ w.heap.size ≤ g' ∧ w'.heap[g']? = some (.cells (ar (bef l on)) 45 (0, 0)) ∧ Below w.heap.size w w'
theorem best_snoc (on : List Int) (i : Int) (l : List Int) (j : Nat) (h : j < l.length) : best on i (l.take (j + 1)) = mn (best on i (l.take j)) (cost on i (rd l (j : Int))) := by
  have e : l.take (j + 1) = l.take j ++ [rd l (j : Int)] := by
    rw [List.take_succ_eq_append_getElem h]
    simp [rd, h]
  rw [e]
  unfold best
  rw [List.foldl_append]
  rfl
theorem dst_bd {a b : Int} (h0 : -48 ≤ a ∧ a ≤ 48) (h1 : -48 ≤ b ∧ b ≤ 48) : 0 ≤ dst a b ∧ dst a b ≤ 96 := by
  unfold dst mx
  split <;> omega
theorem rd_bd {l : List Int} {n m : Int} (h : ∀ x ∈ l, n ≤ x ∧ x ≤ m) (i : Int) (h0 : 0 ≤ i) (h1 : i < l.length) : n ≤ rd l i ∧ rd l i ≤ m := by
  have hi : i.toNat < l.length := by omega
  have e : rd l i = l[i.toNat] := by simp [rd, hi]
  rw [e]
  exact h _ (List.getElem_mem hi)
theorem best_bd {on l : List Int} (i : Int) (hl : on.length = 97) (hb : ∀ x ∈ on, 0 ≤ x ∧ x ≤ 1073741824) (hi : 0 ≤ i ∧ i ≤ 96) (hp : ∀ p ∈ l, -48 ≤ p ∧ p ≤ 48) : 0 ≤ best on i l ∧ best on i l ≤ 1073741824 := by
  have gen : ∀ (l : List Int) (m : Int), (∀ p ∈ l, -48 ≤ p ∧ p ≤ 48) → 0 ≤ m → m ≤ 1073741824 → 0 ≤ l.foldl (fun m p => mn m (cost on i p)) m ∧ l.foldl (fun m p => mn m (cost on i p)) m ≤ 1073741824 := by
    intro l
    induction l with
    | nil => intro m _ a b; exact ⟨a, b⟩
    | cons p t ih =>
      intro m hq a b
      have hp1 := hq p (List.mem_cons_self)
      have d1 := dst_bd (a := i - 48) (b := p) (by omega) hp1
      have r1 := rd_bd hb (p + 48) (by omega) (by rw [hl]; omega)
      exact ih _ (fun q hq' => hq q (List.mem_cons_of_mem _ hq')) (by show 0 ≤ mn m (cost on i p); unfold mn cost; split <;> omega) (by show mn m (cost on i p) ≤ 1073741824; unfold mn cost; split <;> omega)
  exact gen l _ hp (by omega) (by omega)
theorem bef_len (l on : List Int) : (bef l on).length = 97 := by simp [bef]
theorem bef_rd (l on : List Int) (i : Nat) (h : i < 97) : rd (bef l on) (i : Int) = best on (i : Int) l := by
  simp [rd, bef, h]
theorem ext_rd {a b : List Int} (h : a.length = b.length) (hr : ∀ i : Nat, i < a.length → rd a (i : Int) = rd b (i : Int)) : a = b := by
  refine List.ext_getElem h (fun i h1 h2 => ?_)
  have := hr i h1
  simpa [rd, h1, h2] using this
theorem bef_bd {on l : List Int} (hl : on.length = 97) (hb : ∀ x ∈ on, 0 ≤ x ∧ x ≤ 1073741824) (hp : ∀ p ∈ l, -48 ≤ p ∧ p ≤ 48) : ∀ x ∈ bef l on, 0 ≤ x ∧ x ≤ 1073741824 := by
  intro x hx
  unfold bef at hx
  obtain ⟨i, hi, rfl⟩ := List.mem_map.1 hx
  have := List.mem_range.1 hi
  exact best_bd _ hl hb (by omega) hp
theorem dist_calls (a b : Int) (w : World) (h0 : -1000 ≤ a ∧ a ≤ 1000) (h1 : -1000 ≤ b ∧ b ≤ 1000) :
    Calls Try.prog 27 #[.int .i64 a, .int .i64 b] w fun e w' => e = .returned (.int .i64 (dst a b)) ∧ Drawn0 w w' := by
  have e1 : IntKind.i64.wrap (a - b) = a - b := IntWalk.i64_in _ (by omega)
  have e2 : IntKind.i64.wrap (b - a) = b - a := IntWalk.i64_in _ (by omega)
  go_enter Try.func27, Try.ntmps27
  go_wp2
  all_goals
    go_ret
    exact ⟨by unfold dst mx; first | (rw [if_pos (by omega)]; rfl) | (rw [if_neg (by omega)]; rfl), Drawn0.refl _⟩
theorem min2_mn (k k' : IntKind) (x y : Int) : Builtin.min2 (.int k x) (.int k' y) = pure (.int k (mn x y)) := by simp only [Builtin.min2]; rfl
attribute [local go_sem] min2_mn min_two
set_option maxHeartbeats 2000000 in
theorem before_calls (c : Int) (h0 : 0 ≤ c) (h1 : c ≤ 31) (g : Nat) (on : List Int) (hl : on.length = 97) (hb : ∀ x ∈ on, 0 ≤ x ∧ x ≤ 1073741824) (w : World) (hG : w.heap[g]? = some (.cells (ar on) 45 (0, 0))) :
    Calls Try.prog 25 #[.int .i64 c, .pointer (some ⟨g, 0, none⟩)] w fun e w' => BefP w (reachV c) on e w' := by
  have hev := Aside0.mk (reach_ev c h0 h1)
  have hlp := Aside0.mk (fun p (h : p ∈ reachV c) => reachV_mem h0 h1 h)
  have hll := Aside0.mk (reachV_len c)
  obtain ⟨l, hl_⟩ : ∃ l, l = reachV c := ⟨_, rfl⟩
  rw [← hl_] at hev hlp hll ⊢
  clear hl_
  have hu45 := Try.underlying45
  have hz : ∀ w : World, Sem.run Try.prog (zeroValue 45) w = .ok (.agg (ar (Z97))) w := fun _ => by rfl
  have HG := Aside0.mk hG
  have HL := Aside0.mk hl
  have HN := Aside0.mk hb
  clear hG hl hb
  go_enter Try.func25, Try.ntmps25
  go_wp2_with fail
  refine (mount_Reach.calls 6 c l 0 _ hev.out).mono ?_
  rintro e w1 ⟨v, rfl, ho0, hb0⟩
  have hlen := l.length
  obtain ⟨A, hAe_⟩ : ∃ A, A = w.heap.size := ⟨_, rfl⟩
  have hA0 := blk_below (blk_new w (.cells (ar Z97) 45)) hb0
  have hR0 := Aside0.mk (Kd.R_lower (Kd.R_newB ho0 (blk_new w (.cells (ar Z97) 45))) (show w.heap.size ≤ (w.alloc (.cells (ar Z97) 45)).heap.size by simp))
  have HG1 := Aside0.mk (blk_below (blk_alloc HG.out (.cells (ar Z97) 45)) hb0)
  have hgA : g ≠ A := by have := blk_lt HG.out; omega
  have HB := Aside0.mk (below_step (below_alloc (Below.refl w.heap.size w) (.cells (ar Z97) 45)) hb0)
  rw [← hAe_] at hA0 hR0 ⊢
  have HA := Aside0.mk hA0
  have hAw : w.heap.size ≤ A := by omega
  clear hA0 ho0 hb0 hAe_ hlen HG
  obtain ⟨Av, cv, rfl⟩ := Kd.R_slice hR0.out
  go_wp2_with fail
  go_loopg [16] 97 (fun kq v16 w' => ∃ (i : Nat) (X : List Int), v16 = .int .i64 (i : Int) ∧ Aside0 (w'.heap[A]? = some (.cells (ar X) 45 (0, 0))) ∧ Aside0 (Kd.R (Kd.int .i64) 3 w' A (fun k => True ∧ k ≠ A) (.slice Av l.length cv) l) ∧ Aside0 (w'.heap[g]? = some (.cells (ar on) 45 (0, 0))) ∧ Aside0 (Below w.heap.size w w') ∧ Aside0 (i + kq = 97 ∧ X.length = 97 ∧ ∀ j : Nat, j < i → rd X (j : Int) = best on (j : Int) l))
  case atStart => exact ⟨0, Z97, rfl, HA, hR0, HG1, HB, ⟨by omega, rfl, fun j h => absurd h (by omega)⟩⟩
  case round =>
    clear HA hR0 HG1 HB
    obtain ⟨gk1, rfl⟩ : ∃ x, x = gk := ⟨_, rfl⟩
    obtain ⟨i, X, rfl, HA, HR, HG, HB, HF⟩ := hrel
    obtain ⟨wk, rfl⟩ : ∃ wk, wk = wr := ⟨_, rfl⟩
    have zA := blk_lt HA.out
    have hsw : w.heap.size ≤ wk.heap.size := HB.out.size
    by_cases hi : i < 97
    · have hib : decide ((i : Int) < 97) = true := decide_eq_true (by omega)
      have hin := Aside0.mk hi
      clear hi
      have x0 : wk.cell? ⟨A, i, none⟩ = some (.int .i64 (rd X (i : Int))) := (blk_cell HA.out i).trans (ar_get X i (by have := HF.out; have := hin.out; omega))
      have x1 : wk.frozen? ⟨A, i, none⟩ = false := blk_frozen HA.out i
      have hi0 : (0 : Int) ≤ (i : Int) := by omega
      have hi1 : (i : Int) < 97 := by have := hin.out; omega
      go_wp2_with fail
      have hst := blk_put HA.out i (.int .i64 1073741824) (ar_set X i 1073741824)
      go_loopg [23] l.length (fun kq v23 w' => ∃ (j : Nat), v23 = .int .i64 (j : Int) ∧ Aside0 (w'.heap[A]? = some (.cells (ar (X.set i (best on (i : Int) (l.take j)))) 45 (0, 0))) ∧ Aside0 (Kd.R (Kd.int .i64) 3 w' A (fun k => True ∧ k ≠ A) (.slice Av l.length cv) l) ∧ Aside0 (w'.heap[g]? = some (.cells (ar on) 45 (0, 0))) ∧ Aside0 (Below w.heap.size w w') ∧ Aside0 (j + kq = l.length))
      case atStart => exact ⟨0, rfl, ⟨hst⟩, ⟨Kd.R_far HR.out (p := ⟨A, i, none⟩) (fun k hk => hk.2) _⟩, ⟨blk_far HG.out hgA _⟩, ⟨below_set HB.out hAw⟩, ⟨by omega⟩⟩
      case round =>
        clear HA HR HG HB hst x0 x1 zA hsw
        obtain ⟨j, rfl, HA, HR, HG, HB, HJ⟩ := hrel
        obtain ⟨wj, rfl⟩ : ∃ wj, wj = wr := ⟨_, rfl⟩
        by_cases hj : j < l.length
        · have hjb : decide (j < l.length) = true := decide_eq_true hj
          have hj0 : (0 : Int) ≤ (j : Int) := by omega
          have hj1 : (j : Int) < (l.length : Int) := by omega
          have hj4 : (j : Int) < 4 := by have := hll.out; omega
          obtain ⟨ad, e_, hx0⟩ := Kd.at_int (Kd.R_reads' HR.out).2.2 (j : Int) hj0 hj1
          subst e_
          simp only [Int.toNat_natCast] at hx0
          have hsn := best_snoc on (i : Int) l j hj
          have hm := best_bd (l := l.take j) (i : Int) HL.out HN.out (by have := hin.out; omega) (fun p hp => by have := hlp.out p (List.mem_of_mem_take hp); omega)
          have hp := rd_bd (fun x hx => ⟨(hlp.out x hx).1, (hlp.out x hx).2.1⟩) (j : Int) hj0 hj1
          have hjn := Aside0.mk hj
          clear hj
          have hA' := HA.out
          generalize hm_ : best on (i : Int) (l.take j) = m at hsn hm hA'
          generalize hp_ : rd l (j : Int) = p at hsn hp hx0
          have hsn' := Aside0.mk hsn
          have hm' := Aside0.mk hm_
          clear hsn hm_ hp_ HA
          obtain ⟨p0, p1⟩ := hp
          obtain ⟨m0, m1⟩ := hm
          have q0 : (0 : Int) ≤ p + 48 := by omega
          have q1 : p + 48 < 97 := by omega
          have hon := rd_bd HN.out (p + 48) q0 (by rw [HL.out]; exact q1)
          have hd := dst_bd (a := (i : Int) - 48) (b := p) (by omega) (by omega)
          have y0 : wj.cell? ⟨g, (p + 48).toNat, none⟩ = some (.int .i64 (rd on (p + 48))) := (blk_cell HG.out _).trans ((ar_get on _ (by rw [HL.out]; omega)).trans (by rw [Int.toNat_of_nonneg q0]))
          have x0 : wj.cell? ⟨A, i, none⟩ = some (.int .i64 m) := (blk_cell hA' i).trans ((ar_get _ i (by rw [List.length_set]; have := HF.out; have := hin.out; omega)).trans (by simp [rd, HF.out.2.1, hin.out]))
          have x1 : wj.frozen? ⟨A, i, none⟩ = false := blk_frozen hA' i
          have HA := Aside0.mk hA'
          have hcost := Aside0.mk (show cost on (i : Int) p = dst ((i : Int) - 48) p + rd on (p + 48) from rfl)
          generalize hon_ : rd on (p + 48) = o at hon y0 hcost
          generalize hd_ : dst ((i : Int) - 48) p = d at hd hcost
          have hd' := Aside0.mk hd_
          clear hA' hon_ hd_
          have e1 : IntKind.i64.wrap ((i : Int) - 48) = (i : Int) - 48 := IntWalk.i64_in _ (by omega)
          have e2 : IntKind.i64.wrap (p + 48) = p + 48 := IntWalk.i64_in _ (by omega)
          have e3 : IntKind.i64.wrap (d + o) = d + o := IntWalk.i64_in _ (by omega)
          go_wp2_with fail
          go_region_with (go_at_call 27; refine (dist_calls ((i : Int) - 48) p _ ⟨by omega, by omega⟩ ⟨by omega, by omega⟩).mono ?_; rw [hd'.out]; rintro e w2 ⟨rfl, ⟨nd, rfl⟩⟩)
          all_goals
            go_wp2
            go_roundg (gk - 1)
            case measure => have := HJ.out; have := hjn.out; omega
            case rel =>
              have es : (X.set i m).set i (mn m (d + o)) = X.set i (best on (i : Int) (l.take (j + 1))) := by rw [List.set_set, hsn'.out, hcost.out]
              exact ⟨j + 1, rfl, ⟨blk_put (blk_drewN HA.out _) i _ ((ar_set _ i _).trans (congrArg ar es))⟩, ⟨Kd.R_far (Kd.R_drewN HR.out _) (p := ⟨A, i, none⟩) (fun k hk => hk.2) _⟩, ⟨blk_far (blk_drewN HG.out _) hgA _⟩, ⟨below_set (pw_below_drewN HB.out _) hAw⟩, ⟨by have := HJ.out; have := hjn.out; omega⟩⟩
        · have hjb : decide (j < l.length) = false := decide_eq_false hj
          rw [List.take_of_length_le (by omega)] at HA
          clear hj
          go_wp2
          go_roundg (gk1 - 1)
          case measure => have := HF.out; have := hin.out; omega
          case rel =>
            refine ⟨i + 1, _, rfl, HA, HR, HG, HB, ⟨by have := HF.out; have := hin.out; omega, by rw [List.length_set]; exact HF.out.2.1, fun q hq => ?_⟩⟩
            by_cases hqi : q = i
            · subst hqi
              simp [rd, HF.out.2.1, hin.out]
            · rw [← HF.out.2.2 q (by omega)]
              simp [rd, List.getElem?_set, Ne.symm hqi]
    · have hib : decide ((i : Int) < 97) = false := decide_eq_false (by omega)
      have hX : X = bef l on := ext_rd (by rw [HF.out.2.1, bef_len]) (fun q hq => by
        have h1 := HF.out
        rw [bef_rd l on q (by omega)]
        exact h1.2.2 q (by omega))
      rw [hX] at HA
      clear hi
      go_wp2
      go_ret
      exact ⟨A, rfl, hAw, HA.out, HB.out⟩
end Go.Proofs.Ytopbajcnihboiaa.Px
