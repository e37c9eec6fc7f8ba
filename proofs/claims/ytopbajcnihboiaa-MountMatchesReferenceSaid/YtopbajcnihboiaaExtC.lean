/- The plan: walked. -/
import Derived.Test.YtopbajcnihboiaaExtB
import Derived.Test.YtopbajcnihboiaaPxx1
import Derived.Test.YtopbajcnihboiaaPxx2
import Derived.WalkMore
namespace Go.Proofs.Ytopbajcnihboiaa.Px
open Go.RowKit Go.Proofs.YtopbajcnihboiaaW.PrintWords Go.Proofs.YtopbajcnihboiaaW.PrintLast Go.Proofs.YtopbajcnihboiaaW.PrintMore
set_option linter.unusedVariables false
set_option linter.unusedSimpArgs false
def leftV : List Int → List Int
  | [] => Z97
  | c :: t => bef (reachV c) (leftV t)
def nextV (a c : Int) (on all : List Int) : Option Int := (reachV c).find? (fun p => decide (dst a p + rd on (p + 48) = rd all (a + 48)))
def pathV : Int → List Int → List Int
  | _, [] => []
  | a, c :: t => match nextV a c (leftV t) (leftV (c :: t)) with
    | some p => p :: pathV p t
    | none => pathV a t
def inB (a : Int) : Bool := decide (-48 ≤ a ∧ a ≤ 48)
def colB (c : Int) : Bool := decide (0 ≤ c ∧ c ≤ 31)
def planV (a : Int) (l : List Int) : List Int × Int × Int := if inB a && decide (l.length ≤ 40) && l.all colB then (pathV a l, rd (leftV l) (a + 48), 0) else ([], 0, 1)
def mount_Plan.f (a0 : Int) (l1 : List Int) : Option (List Int × Int × Int) := some (planV a0 l1)
theorem leftV_ok : ∀ l : List Int, (∀ c ∈ l, 0 ≤ c ∧ c ≤ 31) → (leftV l).length = 97 ∧ ∀ x ∈ leftV l, 0 ≤ x ∧ x ≤ 1073741824
  | [], _ => ⟨rfl, fun x hx => by unfold leftV Z97 at hx; have := List.eq_of_mem_replicate hx; omega⟩
  | c :: t, h => by
    have hc := h c (List.mem_cons_self)
    obtain ⟨a, b⟩ := leftV_ok t (fun x hx => h x (List.mem_cons_of_mem _ hx))
    exact ⟨bef_len _ _, bef_bd a b (fun p hp => by have := reachV_mem hc.1 hc.2 hp; omega)⟩
/-- what 'left' holds: from m on, pointers to the lengths. -/
def LP (w : World) (L base : Nat) (l : List Int) (m : Nat) : Prop := ∃ P : Array Value, w.heap[L]? = some (.cells P 43 (0, 0)) ∧ P.size = l.length + 1 ∧ base ≤ L ∧
  (∀ j, j < l.length + 1 → ∃ v, P[j]? = some v) ∧ ∀ j, m ≤ j → j ≤ l.length → ∃ g, P[j]? = some (.pointer (some ⟨g, 0, none⟩)) ∧ base ≤ g ∧ w.heap[g]? = some (.cells (ar (leftV (l.drop j))) 45 (0, 0))
theorem mis_ev (a : Int) : mount_is.f a = some (inB a) := by
  unfold mount_is.f inB
  split
  · rename_i h; congr 1; simp; omega
  · rename_i h; congr 1; symm; simp; omega
theorem mcol_ev (a : Int) : mount_column.f a = some (colB a) := by
  unfold mount_column.f colB
  split
  · rename_i h; congr 1; rw [decide_eq_decide]; omega
  · rename_i h; congr 1; symm; simp; omega
def nils (m : Nat) : Array Value := madeCells #[.pointer none] m
theorem nils_size (m : Nat) : (nils m).size = m := by simp [nils, madeCells]
theorem nils_get (m j : Nat) (h : j < m) : (nils m)[j]? = some (.pointer none) := by
  simp [nils, madeCells, h, Nat.mod_one]
theorem nils_make (m : Nat) (h : m ≤ 1000) (W : World) : (Instr.makeSlice 42 (.int .i64 ((m : Int) + 1)) (.int .i64 ((m : Int) + 1))).run Try.prog W = .ok (.slice (some ⟨W.heap.size, 0, none⟩) (m + 1) (m + 1)) (W.alloc (.cells (nils (m + 1)) 43)) := by
  have h := print_make_of (P := Try.prog) 42 43 (.pointer none) 8 Try.underlying42 (by kernel_rfl) rfl (by omega) (m + 1) (by omega) W
  rw [Int.natCast_add] at h
  exact h
theorem LP_below {w w' : World} {L base m : Nat} {l : List Int} (h : LP w L base l m) (hb : Below w.heap.size w w') : LP w' L base l m := by
  obtain ⟨P, h1, h2, h3, h4, h5⟩ := h
  refine ⟨P, blk_below h1 hb, h2, h3, h4, fun j a b => ?_⟩
  obtain ⟨g, q1, q2, q3⟩ := h5 j a b
  exact ⟨g, q1, q2, blk_below q3 hb⟩
theorem LP_keep {w w' : World} {L base m O T : Nat} {l : List Int} {v c : Value} (h : LP w L base l m) (hO : w.heap[O]? = some (.cells #[v] 22 (0, 0))) (hT : w.heap[T]? = some (.cells #[c] 3 (0, 0))) (hv : ∀ k, v.ownBlock = some k → ∃ cells, w.heap[k]? = some (.cells cells 3 (0, 0)))
    (hk : ∀ g, g < w.heap.size → g ≠ O → g ≠ T → some g ≠ v.ownBlock → w'.heap[g]? = w.heap[g]?) : LP w' L base l m := by
  obtain ⟨P, h1, h2, h3, h4, h5⟩ := h
  have gen : ∀ (g : Nat) (cs : Array Value) (t : TypeId), w.heap[g]? = some (.cells cs t (0, 0)) → t ≠ 22 → t ≠ 3 → w'.heap[g]? = some (.cells cs t (0, 0)) := by
    intro g cs t hg t1 t2
    refine (hk g (blk_lt hg) (blk_ne hg hO t1) (blk_ne hg hT t2) (fun e => ?_)).trans hg
    obtain ⟨cs2, hc⟩ := hv g e.symm
    exact blk_ne hg hc t2 rfl
  refine ⟨P, gen _ _ _ h1 (by decide) (by decide), h2, h3, h4, fun j a b => ?_⟩
  obtain ⟨g, q1, q2, q3⟩ := h5 j a b
  exact ⟨g, q1, q2, gen _ _ _ q3 (by decide) (by decide)⟩
theorem LP_read {w : World} {L base m : Nat} {l : List Int} (h : LP w L base l m) (j : Nat) (h1 : m ≤ j) (h2 : j ≤ l.length) : ∃ g, w.cell? ⟨L, j, none⟩ = some (.pointer (some ⟨g, 0, none⟩)) ∧ w.heap[g]? = some (.cells (ar (leftV (l.drop j))) 45 (0, 0)) := by
  obtain ⟨P, p1, p2, p3, p4, p5⟩ := h
  obtain ⟨g, q1, q2, q3⟩ := p5 j h1 h2
  exact ⟨g, (blk_cell p1 j).trans q1, q3⟩
theorem LP_cell {w : World} {L base m : Nat} {l : List Int} (h : LP w L base l m) (j : Nat) (h2 : j ≤ l.length) : (∃ v, w.cell? ⟨L, j, none⟩ = some v) ∧ w.frozen? ⟨L, j, none⟩ = false := by
  obtain ⟨P, p1, p2, p3, p4, p5⟩ := h
  obtain ⟨v, hv⟩ := p4 j (by omega)
  exact ⟨⟨v, (blk_cell p1 j).trans hv⟩, blk_frozen p1 j⟩
theorem LP_set {w : World} {L base m : Nat} {l : List Int} (g : Nat) (h : LP w L base l (m + 1)) (hm : m ≤ l.length) (hg : base ≤ g) (hG : w.heap[g]? = some (.cells (ar (leftV (l.drop m))) 45 (0, 0))) : LP (w.setCell ⟨L, m, none⟩ (.pointer (some ⟨g, 0, none⟩))) L base l m := by
  obtain ⟨P, p1, p2, p3, p4, p5⟩ := h
  refine ⟨P.setIfInBounds m (.pointer (some ⟨g, 0, none⟩)), blk_set p1 m _, by simp [p2], p3, fun j hj => ?_, fun j a b => ?_⟩
  · by_cases e : m = j
    · subst e
      exact ⟨_, by rw [Array.getElem?_setIfInBounds_self]; rw [if_pos (by omega)]⟩
    · obtain ⟨v, hv⟩ := p4 j hj
      exact ⟨v, by rw [Array.getElem?_setIfInBounds_ne e]; exact hv⟩
  · by_cases e : m = j
    · subst e
      exact ⟨g, by rw [Array.getElem?_setIfInBounds_self]; rw [if_pos (by omega)], hg, blk_far hG (blk_ne hG p1 (by decide)) _⟩
    · obtain ⟨g2, q1, q2, q3⟩ := p5 j (by omega) b
      exact ⟨g2, by rw [Array.getElem?_setIfInBounds_ne e]; exact q1, q2, blk_far q3 (blk_ne q3 p1 (by decide)) _⟩
theorem LP_init {w1 : World} {L base : Nat} (l : List Int) (hL : L = w1.heap.size) (hb : base ≤ L) : LP ((w1.alloc (.cells ((nils (l.length + 1)).setIfInBounds l.length (.pointer (some ⟨L + 1, 0, none⟩))) 43)).alloc (.cells (ar Z97) 45)) L base l l.length := by
  subst hL
  refine ⟨_, blk_alloc (blk_new w1 _) _, by simp [nils_size], hb, fun j hj => ?_, fun j a b => ?_⟩
  · by_cases e : l.length = j
    · subst e
      exact ⟨_, by rw [Array.getElem?_setIfInBounds_self]; rw [if_pos (by rw [nils_size]; omega)]⟩
    · exact ⟨_, by rw [Array.getElem?_setIfInBounds_ne e]; exact nils_get _ _ hj⟩
  · have e : j = l.length := by omega
    subst e
    refine ⟨w1.heap.size + 1, by rw [Array.getElem?_setIfInBounds_self]; rw [if_pos (by rw [nils_size]; omega)], by omega, ?_⟩
    have h := blk_new (w1.alloc (.cells ((nils (l.length + 1)).setIfInBounds l.length (.pointer (some ⟨w1.heap.size + 1, 0, none⟩))) 43)) (.cells (ar Z97) 45)
    rw [show (w1.alloc (.cells ((nils (l.length + 1)).setIfInBounds l.length (.pointer (some ⟨w1.heap.size + 1, 0, none⟩))) 43)).heap.size = w1.heap.size + 1 from by simp] at h
    rw [List.drop_length]
    exact h
theorem rd_mem {l : List Int} {j : Nat} (h : j < l.length) : rd l (j : Int) ∈ l := by
  have e : rd l (j : Int) = l[j] := by simp [rd, h]
  rw [e]
  exact List.getElem_mem h
theorem drop_rd {l : List Int} {j : Nat} (h : j < l.length) : l.drop j = rd l (j : Int) :: l.drop (j + 1) := by
  rw [List.drop_eq_getElem_cons h]
  simp [rd, h]
theorem all_rd {l : List Int} (h : ∀ j, j < l.length → colB (rd l (j : Int)) = true) : l.all colB = true := by
  rw [List.all_eq_true]
  intro x hx
  obtain ⟨j, hj, rfl⟩ := List.getElem_of_mem hx
  have := h j hj
  simpa [rd, hj] using this
theorem not_all_rd {l : List Int} {j : Nat} (hj : j < l.length) (h : colB (rd l (j : Int)) = false) : l.all colB = false := by
  rw [List.all_eq_false]
  exact ⟨_, rd_mem hj, by simp [h]⟩
theorem bcell {W w1 : World} (hb : Below W.heap.size W w1) : (∀ b o, b < W.heap.size → w1.cell? ⟨b, o, none⟩ = W.cell? ⟨b, o, none⟩) ∧ (∀ b o, b < W.heap.size → w1.frozen? ⟨b, o, none⟩ = W.frozen? ⟨b, o, none⟩) :=
  ⟨fun b o h => hb.cell (p := ⟨b, o, none⟩) h, fun b o h => hb.frozen (p := ⟨b, o, none⟩) h⟩
theorem plan_err {a : Int} {l r1 : List Int} {r2 r3 : Int} (h : planV a l = (r1, r2, r3)) (hf : (inB a && decide (l.length ≤ 40) && l.all colB) = false) : r1 = [] ∧ r2 = 0 ∧ r3 = 1 := by
  unfold planV at h
  rw [hf] at h
  simp only [Bool.false_eq_true, if_false, Prod.mk.injEq] at h
  exact ⟨h.1.symm, h.2.1.symm, h.2.2.symm⟩
theorem plan_ok {a : Int} {l r1 : List Int} {r2 r3 : Int} (h : planV a l = (r1, r2, r3)) (hf : (inB a && decide (l.length ≤ 40) && l.all colB) = true) : r1 = pathV a l ∧ r2 = rd (leftV l) (a + 48) ∧ r3 = 0 := by
  unfold planV at h
  rw [hf] at h
  simp only [if_true, Prod.mk.injEq] at h
  exact ⟨h.1.symm, h.2.1.symm, h.2.2.symm⟩
theorem err_end (w : World) (r : List Int) (r2 r3 : Int) (w' : World) (hr : r = [] ∧ r2 = 0 ∧ r3 = 1) (hb : Below w.heap.size w w') : ∃ v0_ : Value, Ending.returned (.tuple #[.slice none 0 0, .int .i64 0, .int .i64 1]) = Ending.returned (.tuple #[v0_, .int .i64 r2, .int .i64 r3]) ∧ Kd.R (Kd.int .i64) 3 w' w.heap.size (fun _ => True) v0_ r ∧ Below w.heap.size w w' := by
  obtain ⟨rfl, rfl, rfl⟩ := hr
  exact ⟨_, rfl, Kd.R_nil _ _ _ _ _, hb⟩
theorem dist_same (a b : Int) (w : World) (h0 : -1000 ≤ a ∧ a ≤ 1000) (h1 : -1000 ≤ b ∧ b ≤ 1000) :
    Calls Try.prog 27 #[.int .i64 a, .int .i64 b] w fun e w' => e = .returned (.int .i64 (dst a b)) ∧ w' = w := by
  have e1 : IntKind.i64.wrap (a - b) = a - b := IntWalk.i64_in _ (by omega)
  have e2 : IntKind.i64.wrap (b - a) = b - a := IntWalk.i64_in _ (by omega)
  go_enter Try.func27, Try.ntmps27
  go_wp2
  all_goals
    go_ret
    exact ⟨by unfold dst mx; first | (rw [if_pos (by omega)]; rfl) | (rw [if_neg (by omega)]; rfl), rfl⟩
def nextP (a : Int) (on all : List Int) (p : Int) : Bool := decide (dst a p + rd on (p + 48) = rd all (a + 48))
def NextI (cur c : Int) (on all : List Int) (l : List Int) (j : Nat) : Prop := nextV cur c on all = (l.drop j).find? (nextP cur on all)
theorem NextI.next {cur c : Int} {on all l : List Int} {j : Nat} (h : NextI cur c on all l j) (hj : j < l.length) (hn : nextP cur on all (rd l (j : Int)) = false) : NextI cur c on all l (j + 1) := by
  unfold NextI at h ⊢
  rw [h, drop_rd hj, List.find?_cons, hn]
theorem NextI.hit {cur c : Int} {on all l : List Int} {j : Nat} (h : NextI cur c on all l j) (hj : j < l.length) (hn : nextP cur on all (rd l (j : Int)) = true) : nextV cur c on all = some (rd l (j : Int)) := by
  unfold NextI at h
  rw [h, drop_rd hj, List.find?_cons, hn]
theorem NextI.none {cur c : Int} {on all l : List Int} {j : Nat} (h : NextI cur c on all l j) (hj : l.length ≤ j) : nextV cur c on all = none := by
  unfold NextI at h
  rw [h, List.drop_of_length_le hj]
  rfl
theorem path_hit {cur c p : Int} {t : List Int} (h : nextV cur c (leftV t) (leftV (c :: t)) = some p) : pathV cur (c :: t) = p :: pathV p t := by
  simp only [pathV, h]
theorem path_none {cur c : Int} {t : List Int} (h : nextV cur c (leftV t) (leftV (c :: t)) = none) : pathV cur (c :: t) = pathV cur t := by
  simp only [pathV, h]
set_option maxRecDepth 100000 in
set_option maxHeartbeats 2000000 in
theorem mount_Plan.calls (a0 : Int) (A1 : Option Addr) (c1 : Nat) (l1 : List Int) (r1 : List Int) (r2 r3 : Int) (w : World) (hr1 : (Kd.int .i64).C w A1 l1.length l1) (hc1 : l1.length ≤ c1) (h : mount_Plan.f a0 l1 = some (r1, r2, r3)) :
    Calls Try.prog 13 #[.int .i64 a0, .slice A1 l1.length c1] w fun e w' => ∃ v0_ : Value, e = .returned (.tuple #[v0_, .int .i64 r2, .int .i64 r3]) ∧ Kd.R (Kd.int .i64) 3 w' w.heap.size (fun _ => True) v0_ r1 ∧ Below w.heap.size w w' := by
  have HC1 := Aside0.mk hr1
  have Hc1 := Aside0.mk hc1
  have hh := Aside0.mk (Option.some.inj h)
  have hmax := Kd.C_max hr1
  have hi_ := Aside0.mk (mis_ev a0)
  have hu45 := Try.underlying45
  have hu43 := Try.underlying43
  have hu42 := Try.underlying42
  have hu22 := Try.underlying22
  have hz : ∀ w : World, Sem.run Try.prog (zeroValue 45) w = .ok (.agg (ar Z97)) w := fun _ => by rfl
  have hmk : ∀ W : World, l1.length ≤ 1000 → (Instr.makeSlice 42 (.int .i64 ((l1.length : Int) + 1)) (.int .i64 ((l1.length : Int) + 1))).run Try.prog W = .ok (.slice (some ⟨W.heap.size, 0, none⟩) (l1.length + 1) (l1.length + 1)) (W.alloc (.cells (nils (l1.length + 1)) 43)) := fun W h => nils_make _ h W
  clear hr1 hc1 h
  by_cases b1 : inB a0 = true
  · have hib := Aside0.mk b1
    by_cases b2 : l1.length ≤ 40
    · have hmk' := fun W => hmk W (by omega)
      clear hmk
      have e1 : IntKind.i64.wrap ((l1.length : Int) + 1) = (l1.length : Int) + 1 := IntWalk.i64_in _ (by omega)
      have d1 : decide ((40 : Int) < (l1.length : Int)) = false := decide_eq_false (by omega)
      have hlt : (l1.length : Int) < ((l1.length + 1 : Nat) : Int) := by omega
      have hlt2 : l1.length < l1.length + 1 := by omega
      have hn0 : (0 : Int) ≤ (l1.length : Int) + 1 := by omega
      go_enter Try.func13, Try.ntmps13
      go_wp2_with (first | go_step3)
      refine (mount_is.calls a0 true _ (hi_.out.trans (congrArg some b1))).mono ?_
      rintro e w1 ⟨rfl, hb1_⟩
      have hbb := hb1_.below
      clear hb1_
      obtain ⟨T, hTe⟩ : ∃ T, T = w.heap.size := ⟨_, rfl⟩
      obtain ⟨L, hLe⟩ : ∃ L, L = w1.heap.size := ⟨_, rfl⟩
      have hT1 := Aside0.mk (blk_below (blk_new w (.cells #[.int .i64 a0] 3)) hbb)
      have hB1 := Aside0.mk (below_step (below_alloc (Below.refl w.heap.size w) (.cells #[.int .i64 a0] 3)) hbb)
      have hTL : T < L := by have := blk_lt hT1.out; omega
      have hwL : w.heap.size ≤ L := by omega
      have hwT : w.heap.size ≤ T := by omega
      have x0 : ((w1.alloc (.cells (nils (l1.length + 1)) 43)).alloc (.cells (ar Z97) 45)).cell? ⟨w1.heap.size, l1.length, none⟩ = some (.pointer none) := (blk_cell (blk_alloc (blk_new w1 _) _) _).trans (nils_get _ _ (by omega))
      have x1 : ((w1.alloc (.cells (nils (l1.length + 1)) 43)).alloc (.cells (ar Z97) 45)).frozen? ⟨w1.heap.size, l1.length, none⟩ = false := blk_frozen (blk_alloc (blk_new w1 _) _) _
      have HLP := Aside0.mk (LP_init l1 hLe hwL)
      have HT2 := Aside0.mk (blk_alloc (blk_alloc hT1.out (.cells ((nils (l1.length + 1)).setIfInBounds l1.length (.pointer (some ⟨L + 1, 0, none⟩))) 43)) (.cells (ar Z97) 45))
      have HB2 := Aside0.mk (below_alloc (below_alloc hB1.out (.cells ((nils (l1.length + 1)).setIfInBounds l1.length (.pointer (some ⟨L + 1, 0, none⟩))) 43)) (.cells (ar Z97) 45))
      rw [← hTe] at HT2
      obtain ⟨base, hbase⟩ : ∃ b, b = w.heap.size := ⟨_, rfl⟩
      clear hT1 hB1 hbb
      go_wp2_with (first | go_step3)
      rw [← hLe, ← hTe]
      clear hTe hLe x0 x1 hmk' hz hbase
      go_loopg [8] l1.length (fun kq v8 w' => v8 = .int .i64 ((kq : Int) - 1) ∧ Aside0 (LP w' L w.heap.size l1 kq) ∧ Aside0 (w'.heap[T]? = some (.cells #[.int .i64 a0] 3 (0, 0))) ∧ Aside0 (Below w.heap.size w w') ∧ Aside0 (kq ≤ l1.length ∧ ∀ j, kq ≤ j → j < l1.length → colB (rd l1 (j : Int)) = true))
      case atStart => exact ⟨rfl, HLP, HT2, HB2, ⟨Nat.le_refl _, fun j a b => by omega⟩⟩
      case round =>
        clear HLP HT2 HB2
        obtain ⟨rfl, HLP, HT, HB, HF⟩ := hrel
        obtain ⟨wk, rfl⟩ : ∃ wk, wk = wr := ⟨_, rfl⟩
        cases gk with
        | zero =>
          have hal := all_rd (fun j hj => HF.out.2 j (Nat.zero_le _) hj)
          have hres := Aside0.mk (plan_ok hh.out (by rw [hib.out, decide_eq_true b2, hal]; rfl))
          have hcols := Aside0.mk (fun c (hc : c ∈ l1) => of_decide_eq_true (List.all_eq_true.1 hal c hc))
          have hlv := Aside0.mk (leftV_ok l1 hcols.out)
          obtain ⟨g0, hg0, hg1⟩ := LP_read HLP.out 0 (Nat.le_refl _) (Nat.zero_le _)
          rw [List.drop_zero] at hg1
          have hb48 := Aside0.mk (of_decide_eq_true hib.out)
          have hc0 : (0 : Int) ≤ a0 + 48 := by have := hb48.out; omega
          have hc1 : a0 + 48 < 97 := by have := hb48.out; omega
          have e5 : IntKind.i64.wrap (a0 + 48) = a0 + 48 := IntWalk.i64_in _ (by omega)
          have hq0 : (0 : Int) < ((l1.length + 1 : Nat) : Int) := by omega
          have hq1 : (0 : Int) < (l1.length : Int) + 1 := by omega
          have y0 : wk.cell? ⟨g0, (a0 + 48).toNat, none⟩ = some (.int .i64 (rd (leftV l1) (a0 + 48))) := (blk_cell hg1 _).trans ((ar_get _ _ (by rw [hlv.out.1]; omega)).trans (by rw [Int.toNat_of_nonneg hc0]))
          have y1 : wk.cell? ⟨T, 0, none⟩ = some (.int .i64 a0) := (blk_cell HT.out 0).trans rfl
          have hg1' := Aside0.mk hg1
          clear hg1 hal HF
          go_wp2_with (first | go_step3)
          go_quiet (fail)
          go_wp2_with (first | go_step3)
          obtain ⟨O, hOe⟩ : ∃ O, O = wk.heap.size := ⟨_, rfl⟩
          rw [← hOe]
          have HO1 := Aside0.mk (show ((wk.drewN nq).alloc (.cells #[.slice none 0 0] 22)).heap[O]? = some (.cells #[.slice none 0 0] 22 (0, 0)) by rw [hOe]; exact blk_new (wk.drewN nq) _)
          have HT1 := Aside0.mk (blk_alloc (blk_drewN HT.out nq) (.cells #[.slice none 0 0] 22))
          have HLP1 := Aside0.mk (LP_below HLP.out (below_alloc (pw_below_drewN (Below.refl _ _) nq) (.cells #[.slice none 0 0] 22)))
          have HB1 := Aside0.mk (below_alloc (pw_below_drewN HB.out nq) (.cells #[.slice none 0 0] 22))
          have hwO : w.heap.size ≤ O := by rw [hOe]; exact HB.out.size
          have hOT : O ≠ T := by have := blk_lt HT.out; omega
          clear HLP HT HB y0 y1 hg1' hg0 hOe hq0 hq1 e5 hc0 hc1
          go_loopg [73] l1.length (fun kq v73 w' => ∃ (i : Nat) (cur : Int) (v : Value) (xs : List Int), v73 = .int .i64 (i : Int) ∧ Aside0 (w'.heap[O]? = some (.cells #[v] 22 (0, 0))) ∧ Aside0 (w'.heap[T]? = some (.cells #[.int .i64 cur] 3 (0, 0))) ∧ Aside0 ((Kd.int .i64).R 3 w' w.heap.size (fun k => k ≠ T) v xs) ∧ Aside0 (LP w' L w.heap.size l1 0) ∧ Aside0 (Below w.heap.size w w') ∧ Aside0 (i + kq = l1.length ∧ -48 ≤ cur ∧ cur ≤ 48 ∧ xs.length ≤ i ∧ xs ++ pathV cur (l1.drop i) = pathV a0 l1))
          case atStart => exact ⟨0, a0, _, [], rfl, HO1, HT1, ⟨Kd.R_nil _ _ _ _ _⟩, HLP1, HB1, ⟨by omega, hb48.out.1, hb48.out.2, Nat.le_refl _, rfl⟩⟩
          case round =>
            clear HO1 HT1 HLP1 HB1
            obtain ⟨i, cur, v, xs, rfl, HO, HT, HR, HLP, HB, HF⟩ := hrel
            obtain ⟨wi, rfl⟩ : ∃ x, x = wr := ⟨_, rfl⟩
            obtain ⟨gk2, rfl⟩ : ∃ x, x = gk := ⟨_, rfl⟩
            have hcu0 : -48 ≤ cur := HF.out.2.1
            have hcu1 : cur ≤ 48 := HF.out.2.2.1
            by_cases hi : i < l1.length
            · have hib : decide (i < l1.length) = true := decide_eq_true hi
              have hi0 : (0 : Int) ≤ (i : Int) := by omega
              have hi1 : (i : Int) < (l1.length : Int) := by omega
              obtain ⟨ad, e_, hx0⟩ := Kd.at_int (Kd.C_below HC1.out HB.out) (i : Int) hi0 hi1
              subst e_
              simp only [Int.toNat_natCast] at hx0
              have hcc := hcols.out _ (rd_mem hi)
              have hdr := Aside0.mk (drop_rd hi)
              have hlv1 := Aside0.mk (leftV_ok (l1.drop (i + 1)) (fun x hx => hcols.out x (List.mem_of_mem_drop hx)))
              have hlv0 := Aside0.mk (leftV_ok (l1.drop i) (fun x hx => hcols.out x (List.mem_of_mem_drop hx)))
              generalize hc_ : rd l1 (i : Int) = c at hx0 hcc hdr
              have hin := Aside0.mk hi
              clear hc_ hi
              have hev := Aside0.mk (reach_ev c hcc.1 hcc.2)
              have hll := Aside0.mk (reachV_len c)
              have hlp := Aside0.mk (fun p (h : p ∈ reachV c) => reachV_mem hcc.1 hcc.2 h)
              have hni := Aside0.mk (show NextI cur c (leftV (l1.drop (i + 1))) (leftV (l1.drop i)) (reachV c) 0 from rfl)
              generalize hl_ : reachV c = l at hev hll hlp hni
              clear hl_
              go_wp2_with (first | go_step3)
              refine (mount_Reach.calls 6 c l 0 _ hev.out).mono ?_
              rintro e w3 ⟨vl, rfl, hl0, hb3⟩
              obtain ⟨Al, cl, rfl⟩ := Kd.R_slice hl0
              have HO3 := Aside0.mk (blk_below HO.out hb3)
              have HT3 := Aside0.mk (blk_below HT.out hb3)
              have HR3 := Aside0.mk (Kd.R_below HR.out hb3)
              have HLP3 := Aside0.mk (LP_below HLP.out hb3)
              have HB3 := Aside0.mk (below_step HB.out hb3)
              have HL3 := Aside0.mk (Kd.R_lower hl0 HB.out.size)
              clear HO HT HR HLP HB hl0 hb3 hx0
              go_wp2_with (first | go_step3)
              go_loopg [85] l.length (fun kq v85 w' => ∃ (j : Nat), v85 = .int .i64 (j : Int) ∧ Aside0 (w'.heap[O]? = some (.cells #[v] 22 (0, 0))) ∧ Aside0 (w'.heap[T]? = some (.cells #[.int .i64 cur] 3 (0, 0))) ∧ Aside0 ((Kd.int .i64).R 3 w' w.heap.size (fun k => k ≠ T) v xs) ∧ Aside0 (LP w' L w.heap.size l1 0) ∧ Aside0 (Below w.heap.size w w') ∧ Aside0 ((Kd.int .i64).R 3 w' w.heap.size (fun _ => True) (.slice Al l.length cl) l) ∧ Aside0 (j + kq = l.length ∧ NextI cur c (leftV (l1.drop (i + 1))) (leftV (l1.drop i)) l j))
              case atStart => exact ⟨0, rfl, HO3, HT3, HR3, HLP3, HB3, HL3, ⟨by omega, hni.out⟩⟩
              case round =>
                clear HO3 HT3 HR3 HLP3 HB3 HL3 hni
                obtain ⟨j, rfl, HO, HT, HR, HLP, HB, HL, HJ⟩ := hrel
                obtain ⟨wj, rfl⟩ : ∃ x, x = wr := ⟨_, rfl⟩
                by_cases hj : j < l.length
                · have hjb : decide (j < l.length) = true := decide_eq_true hj
                  have hj0 : (0 : Int) ≤ (j : Int) := by omega
                  have hj1 : (j : Int) < (l.length : Int) := by omega
                  have hj4 : (j : Int) < 4 := by have := hll.out; omega
                  obtain ⟨al, e_, hx0⟩ := Kd.at_int (Kd.R_reads' HL.out).2.2 (j : Int) hj0 hj1
                  subst e_
                  simp only [Int.toNat_natCast] at hx0
                  have hp := rd_bd (fun x hx => ⟨(hlp.out x hx).1, (hlp.out x hx).2.1⟩) (j : Int) hj0 hj1
                  have hjn := Aside0.mk hj
                  clear hj
                  obtain ⟨g1, hg1, hG1⟩ := LP_read HLP.out (i + 1) (Nat.zero_le _) (by have := hin.out; omega)
                  obtain ⟨g2, hg2, hG2⟩ := LP_read HLP.out i (Nat.zero_le _) (by have := hin.out; omega)
                  have c1_ : wj.cell? ⟨T, 0, none⟩ = some (.int .i64 cur) := (blk_cell HT.out 0).trans rfl
                  obtain ⟨p, hp_⟩ : ∃ p, p = rd l (j : Int) := ⟨_, rfl⟩
                  rw [← hp_] at hx0 hp
                  obtain ⟨p0, p1⟩ := hp
                  have q0 : (0 : Int) ≤ p + 48 := by omega
                  have q1 : p + 48 < 97 := by omega
                  have q2 : (0 : Int) ≤ cur + 48 := by omega
                  have q3 : cur + 48 < 97 := by omega
                  have hon1 := rd_bd hlv1.out.2 (p + 48) q0 (by rw [hlv1.out.1]; exact q1)
                  have hd := dst_bd (a := cur) (b := p) ⟨hcu0, hcu1⟩ ⟨p0, p1⟩
                  have hdist := Aside0.mk (fun w' => dist_same cur p w' (by omega) (by omega))
                  have y1 : wj.cell? ⟨g1, (p + 48).toNat, none⟩ = some (.int .i64 (rd (leftV (l1.drop (i + 1))) (p + 48))) := (blk_cell hG1 _).trans ((ar_get _ _ (by rw [hlv1.out.1]; omega)).trans (by rw [Int.toNat_of_nonneg q0]))
                  have y2 : wj.cell? ⟨g2, (cur + 48).toNat, none⟩ = some (.int .i64 (rd (leftV (l1.drop i)) (cur + 48))) := (blk_cell hG2 _).trans ((ar_get _ _ (by rw [hlv0.out.1]; omega)).trans (by rw [Int.toNat_of_nonneg q2]))
                  obtain ⟨o1, ho1⟩ : ∃ x, x = rd (leftV (l1.drop (i + 1))) (p + 48) := ⟨_, rfl⟩
                  obtain ⟨o2, ho2⟩ : ∃ x, x = rd (leftV (l1.drop i)) (cur + 48) := ⟨_, rfl⟩
                  obtain ⟨d, hd_⟩ : ∃ x, x = dst cur p := ⟨_, rfl⟩
                  rw [← ho1] at y1 hon1
                  rw [← ho2] at y2
                  rw [← hd_] at hd hdist
                  have hnp := Aside0.mk (show nextP cur (leftV (l1.drop (i + 1))) (leftV (l1.drop i)) (rd l (j : Int)) = decide (d + o1 = o2) by rw [← hp_, hd_, ho1, ho2]; rfl)
                  have hpj := Aside0.mk hp_
                  clear hG1 hG2 hp_ ho1 ho2 hd_
                  have e1 : IntKind.i64.wrap ((i : Int) + 1) = (i : Int) + 1 := IntWalk.i64_in _ (by omega)
                  have e2 : IntKind.i64.wrap (p + 48) = p + 48 := IntWalk.i64_in _ (by omega)
                  have e3 : IntKind.i64.wrap (cur + 48) = cur + 48 := IntWalk.i64_in _ (by omega)
                  have e4 : IntKind.i64.wrap (d + o1) = d + o1 := IntWalk.i64_in _ (by omega)
                  have e5 : IntKind.i64.wrap ((j : Int) + 1) = (j : Int) + 1 := IntWalk.i64_in _ (by omega)
                  have r0 : (0 : Int) ≤ (i : Int) + 1 := by omega
                  have r1_ : (i : Int) + 1 < ((l1.length + 1 : Nat) : Int) := by omega
                  have r2_ : (i : Int) < ((l1.length + 1 : Nat) : Int) := by omega
                  have r3_ : (i : Int) + 1 < (l1.length : Int) + 1 := by omega
                  have r5_ : (i : Int) < (l1.length : Int) + 1 := by omega
                  have r4_ : ((i : Int) + 1).toNat = i + 1 := by omega
                  go_wp2_with (first | go_step3)
                  go_quiet (first | (go_at_call 27; exact Calls.quiet_of_same (hdist.out _)))
                  by_cases hm : d + o1 = o2
                  · have hmb : (d + o1 == o2) = true := beq_iff_eq.mpr hm
                    have hnx := Aside0.mk (HJ.out.2.hit hjn.out (by rw [hnp.out]; exact decide_eq_true hm))
                    clear hm
                    go_wp2_with (first | go_step3)
                    refine (step_calls _ w.heap.size O T p cur v xs (blk_drewN HO.out _) (blk_drewN HT.out _) hOT hwO hwT (Kd.R_drewN HR.out _) (by have := HF.out.2.2.2.1; have := hin.out; omega)).mono ?_
                    rintro e w4 ⟨rfl, hst⟩
                    have hst' := Aside0.mk hst
                    clear hst
                    go_wp2_with (first | go_step3)
                    go_roundg (gk2 - 1)
                    case measure => have := HF.out.1; have := hin.out; omega
                    case rel =>
                      obtain ⟨v', s1, s2, s3, s4, s5⟩ := hst'.out
                      refine ⟨i + 1, p, v', xs ++ [p], rfl, ⟨s1⟩, ⟨s3⟩, ⟨s2⟩, ⟨?_⟩, ⟨(pw_below_drewN HB.out _).trans s4⟩, ⟨by have := HF.out.1; have := hin.out; omega, p0, p1, by have := HF.out.2.2.2.1; rw [List.length_append, List.length_singleton]; omega, ?_⟩⟩
                      · exact LP_keep (LP_below HLP.out (pw_below_drewN (Below.refl _ _) _)) (blk_drewN HO.out _) (blk_drewN HT.out _) (Kd.R_typed (Kd.R_drewN HR.out _)) s5
                      · have h1 := HF.out.2.2.2.2
                        have h2 := hnx.out
                        rw [← hpj.out, hdr.out] at h2
                        rw [hdr.out, path_hit h2] at h1
                        rw [← h1, List.append_assoc]
                        rfl
                  · have hmb : (d + o1 == o2) = false := beq_eq_false_iff_ne.mpr hm
                    have hnx := Aside0.mk (HJ.out.2.next hjn.out (by rw [hnp.out]; exact decide_eq_false hm))
                    clear hm
                    go_wp2_with (first | go_step3)
                    go_roundg (gk - 1)
                    case measure => have := HJ.out.1; have := hjn.out; omega
                    case rel => exact ⟨j + 1, rfl, ⟨blk_drewN HO.out _⟩, ⟨blk_drewN HT.out _⟩, ⟨Kd.R_drewN HR.out _⟩, ⟨LP_below HLP.out (pw_below_drewN (Below.refl _ _) _)⟩, ⟨pw_below_drewN HB.out _⟩, ⟨Kd.R_drewN HL.out _⟩, ⟨by have := HJ.out.1; have := hjn.out; omega, hnx.out⟩⟩
                · have hjb : decide (j < l.length) = false := decide_eq_false hj
                  have hnx := HJ.out.2.none (by omega)
                  clear hj
                  go_wp2_with (first | go_step3)
                  go_roundg (gk2 - 1)
                  case measure => have := HF.out.1; have := hin.out; omega
                  case rel => exact ⟨i + 1, cur, v, xs, rfl, HO, HT, HR, HLP, HB, ⟨by have := HF.out.1; have := hin.out; omega, hcu0, hcu1, by have := HF.out.2.2.2.1; omega, by rw [← HF.out.2.2.2.2, hdr.out, path_none (by rw [← hdr.out]; exact hnx)]⟩⟩
            · have hib : decide (i < l1.length) = false := decide_eq_false hi
              have hxs : xs = pathV a0 l1 := by
                have h1 := HF.out.2.2.2.2
                rw [List.drop_of_length_le (by omega)] at h1
                simpa [pathV] using h1
              have o0 : wi.cell? ⟨O, 0, none⟩ = some v := (blk_cell HO.out 0).trans rfl
              obtain ⟨Av, cv, rfl⟩ := Kd.R_slice HR.out
              clear hi
              go_wp2_with (first | go_step3)
              (try simp only [Exit.noGoto_ret])
              go_ret3
              obtain ⟨hr1, hr2, hr3⟩ := hres.out
              exact ⟨_, by rw [hr2, hr3]; rfl, by rw [hr1, ← hxs]; exact Kd.R_mono HR.out (fun _ _ => trivial), HB.out⟩
        | succ k =>
          have hk : k < l1.length := by have := HF.out.1; omega
          have hk1 : (k : Int) < (l1.length : Int) := by omega
          have hk0 : (0 : Int) ≤ (k : Int) := by omega
          rw [show ((k + 1 : Nat) : Int) - 1 = (k : Int) by omega]
          obtain ⟨ad, e_, hx0⟩ := Kd.at_int (Kd.C_below HC1.out HB.out) (k : Int) hk0 hk1
          subst e_
          simp only [Int.toNat_natCast] at hx0
          have zL : L < wk.heap.size := by obtain ⟨P, p1, _⟩ := HLP.out; exact blk_lt p1
          have hkk := Aside0.mk (show k < l1.length from hk)
          have hcol := Aside0.mk (mcol_ev (rd l1 (k : Int)))
          by_cases cb : colB (rd l1 (k : Int)) = true
          · obtain ⟨g, hg0, hg1⟩ := LP_read HLP.out (k + 1) (Nat.le_refl _) (by omega)
            have hg2 := Aside0.mk hg1
            obtain ⟨⟨vo, ho1⟩, ho2⟩ := LP_cell HLP.out k (by omega)
            have hcb : 0 ≤ rd l1 (k : Int) ∧ rd l1 (k : Int) ≤ 31 := by simpa [colB] using cb
            have hdr := Aside0.mk (drop_rd hk)
            have hcb' := Aside0.mk cb
            generalize hp_ : rd l1 (k : Int) = p at hx0 hcol hcb hdr hcb'
            have hpp := Aside0.mk hp_
            clear hp_ cb hg1
            go_wp2_with (first | go_step3)
            refine (mount_column.calls p true _ (hcol.out.trans (congrArg some hcb'.out))).mono ?_
            rintro e w2 ⟨rfl, ⟨nd, rfl⟩⟩
            have e3 : IntKind.i64.wrap ((k : Int) + 1) = (k : Int) + 1 := IntWalk.i64_in _ (by omega)
            have e4 : IntKind.i64.wrap ((k : Int) - 1) = (k : Int) - 1 := IntWalk.i64_in _ (by omega)
            have hq0 : (0 : Int) ≤ (k : Int) + 1 := by omega
            have hq1 : (k : Int) + 1 < ((l1.length + 1 : Nat) : Int) := by omega
            have hq2 : (k : Int) < ((l1.length + 1 : Nat) : Int) := by omega
            have hq3 : (k : Int) + 1 < (l1.length : Int) + 1 := by omega
            have hq4 : ((k : Int) + 1).toNat = k + 1 := by omega
            have hlo := leftV_ok (l1.drop (k + 1)) (fun c hc => ?hcols)
            case hcols =>
              obtain ⟨j, hj, rfl⟩ := List.getElem_of_mem hc
              have hj2 : j < l1.length - (k + 1) := by simpa using hj
              have := HF.out.2 (k + 1 + j) (by omega) (by omega)
              have e : (l1.drop (k + 1))[j] = rd l1 ((k + 1 + j : Nat) : Int) := by
                rw [List.getElem_drop]
                unfold rd
                rw [Int.toNat_natCast, List.getD_eq_getElem?_getD, List.getElem?_eq_getElem (by omega)]
                rfl
              rw [e]
              exact of_decide_eq_true this
            have hbef := Aside0.mk (fun (w' : World) (h : w'.heap[g]? = some (.cells (ar (leftV (l1.drop (k + 1)))) 45 (0, 0))) => before_calls p hcb.1 hcb.2 g (leftV (l1.drop (k + 1))) hlo.1 hlo.2 w' h)
            have hlo' := Aside0.mk hlo
            clear hlo
            go_wp2_with (first | go_step3)
            go_region_with (go_at_call 25; refine (hbef.out _ (blk_drewN hg2.out _)).mono ?_; rintro e w3 ⟨g3, rfl, hg3, hG3, hb3⟩; have H3 := Aside0.mk hG3; have K3 := Aside0.mk hb3; have y0 : w3.cell? ⟨L, k, none⟩ = some vo := ((bcell hb3).1 L k zL).trans ho1; have y1 : w3.frozen? ⟨L, k, none⟩ = false := ((bcell hb3).2 L k zL).trans ho2; clear hG3 hb3)
            all_goals
              go_wp2_with (first | go_step3)
              go_roundg k
              case measure => omega
              case rel =>
                refine ⟨rfl, ⟨?_⟩, ⟨?_⟩, ⟨?_⟩, ⟨by omega, fun j a b => ?_⟩⟩
                · have hh1 := LP_below (LP_below HLP.out (pw_below_drewN (Below.refl _ _) _)) K3.out
                  exact LP_set g3 hh1 (by omega) (Nat.le_trans HB.out.size hg3) (by rw [hdr.out]; exact H3.out)
                · exact blk_far (blk_below (blk_drewN HT.out _) K3.out) (by show T ≠ L; omega) _
                · exact below_set (below_step (pw_below_drewN HB.out _) K3.out) hwL
                · by_cases e : j = k
                  · subst e; rw [hpp.out]; exact hcb'.out
                  · exact HF.out.2 j (by omega) b
          · have hcb : colB (rd l1 (k : Int)) = false := by simpa using cb
            have hres := Aside0.mk (plan_err hh.out (by rw [not_all_rd hk hcb, Bool.and_false]))
            have hcb' := Aside0.mk hcb
            generalize hp_ : rd l1 (k : Int) = p at hx0 hcol hcb'
            clear hp_ cb hcb
            go_wp2_with (first | go_step3)
            refine (mount_column.calls p false _ (hcol.out.trans (congrArg some hcb'.out))).mono ?_
            rintro e w2 ⟨rfl, ⟨nd, rfl⟩⟩
            go_wp2_with (first | go_step3)
            (try simp only [Exit.noGoto_ret])
            go_ret3
            exact err_end w _ _ _ _ hres.out (pw_below_drewN HB.out _)
    · have d1 : decide ((40 : Int) < (l1.length : Int)) = true := decide_eq_true (by omega)
      have hres := Aside0.mk (plan_err hh.out (by rw [decide_eq_false b2, Bool.and_false, Bool.false_and]))
      clear hmk
      go_enter Try.func13, Try.ntmps13
      go_wp2_with (first | go_step3)
      refine (mount_is.calls a0 true _ (hi_.out.trans (congrArg some b1))).mono ?_
      rintro e w1 ⟨rfl, ⟨nd, rfl⟩⟩
      go_wp2_with (first | go_step3)
      (try simp only [Exit.noGoto_ret])
      go_ret3
      exact err_end w _ _ _ _ hres.out (pw_below_drewN (below_alloc (Below.refl w.heap.size w) _) _)
  · have b1' : inB a0 = false := by simpa using b1
    have hres := Aside0.mk (plan_err hh.out (by rw [b1', Bool.false_and, Bool.false_and]))
    clear hmk
    go_enter Try.func13, Try.ntmps13
    go_wp2_with (first | go_step3)
    refine (mount_is.calls a0 false _ (hi_.out.trans (congrArg some b1'))).mono ?_
    rintro e w1 ⟨rfl, ⟨nd, rfl⟩⟩
    go_wp2_with (first | go_step3)
    (try simp only [Exit.noGoto_ret])
    go_ret3
    exact err_end w _ _ _ _ hres.out (pw_below_drewN (below_alloc (Below.refl w.heap.size w) _) _)
end Go.Proofs.Ytopbajcnihboiaa.Px
