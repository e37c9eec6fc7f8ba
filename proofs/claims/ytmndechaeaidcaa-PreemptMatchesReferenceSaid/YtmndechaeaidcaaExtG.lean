/- Run, walked: first the function that it makes and asks for each interruption. -/
import Derived.Test.YtmndechaeaidcaaExtF
import Derived.Deep.RegionHeld3
import Derived.Deep.DrawnRows
import Derived.Laws.EntriesVeiled
import Derived.IntWalk
import Derived.Deep.DeepCutAuto
import Derived.Deep.CutBlock
namespace Go.Proofs.Ytmndechaeaidcaa.Px
open Go.RowKit Go.Proofs.YtmndechaeaidcaaW.PrintWords Go.Proofs.YtmndechaeaidcaaW.PrintLast Go.Proofs.YtmndechaeaidcaaW.PrintMore
attribute [local go_sem] max2_int min2_int max_two min_two max_three min_three max_four min_four World.size_setCell
attribute [local go_sem ↓] Go.wp_at_zero Go.wp_at_succ
set_option linter.unusedVariables false
set_option linter.unusedSimpArgs false
/-- Behind one decision. -/
def DecP (w : World) (base B : Nat) (win : Int) (cur : List S37) (w' : World) : Prop :=
  ∃ v', w'.heap[B]? = some (.cells #[v', .int .i64 win, .int .i64 (sumC cur)] 46 (0, 0)) ∧ RowT w' base v' cur ∧ (base ≤ B → base ≤ w.heap.size → Below base w w') ∧ ∀ k t cs, w.heap[k]? = some (.cells cs t (0, 0)) → t ≠ 37 → k ≠ B → w'.heap[k]? = w.heap[k]?
theorem run_store_func {P : Program} {w : World} (a : Addr) (f : Fn) (x c : Array Value) {m : Mode} : (store a (.func f x c) m).run P w = stored P w a (.func f x c) m := run_store P w a _ m rfl
attribute [local go_sem] run_store_func
theorem dec_no {w w1 : World} {base B : Nat} {win : Int} {l : List S37} (o : Obj) (n : Nat) (hB : B < w.heap.size) (h : AtP ((w.alloc o).drewN n) base B win l w1) (n' : Nat) : DecP w base B win l (w1.drewN n') := by
  obtain ⟨v, h1, h2, h3⟩ := h
  refine ⟨v, h1, h2.move (fun _ _ => rfl), fun b1 b2 => ?_, fun k t cs hk ht hn => ?_⟩
  · have h4 : Below base w ((w.alloc o).drewN n) := (((Below.refl base w).alloc b2 o) : Below base w (w.alloc o)) |> fun h => ⟨h.os, h.tape, h.output, h.size, h.block⟩
    have h5 := h4.grown h3 (by have := h4.size; omega) (fun k hk => by injection hk with hk; omega)
    exact ⟨h5.os, h5.tape, h5.output, h5.size, h5.block⟩
  · have h6 := h3.block k (by have := blk_lt hk; show k < (w.alloc o).heap.size; simp; omega) (fun e => hn (by injection e))
    exact h6.trans (Below.heap_alloc w o k (blk_lt hk))
theorem dec_yes {w w1 w2 : World} {base B : Nat} {win : Int} {x : S37} {l : List S37} {v : Value} (o : Obj) (n : Nat) (hB : B < w.heap.size) (h1 : (w.alloc o).heap.size ≤ w1.heap.size) (hat : ((w.alloc o).drewN n).grownBy w1 (some B)) (hrow : RowT w1 base v l) (n' : Nat) (h : AddP (w1.drewN n') base B win (sumC l) x v l w2) : DecP w base B win (l ++ [x]) w2 := by
  obtain ⟨v2, g1, g2, g3, g4⟩ := h
  refine ⟨v2, by rw [sumC_snoc]; exact g1, g2, fun b1 b2 => ?_, fun k t cs hk ht hn => ?_⟩
  · have h4 : Below base w ((w.alloc o).drewN n) := (((Below.refl base w).alloc b2 o) : Below base w (w.alloc o)) |> fun h => ⟨h.os, h.tape, h.output, h.size, h.block⟩
    have h5 := h4.grown hat (by have := h4.size; omega) (fun k hk => by injection hk with hk; omega)
    have h6 : Below base w (w1.drewN n') := ⟨h5.os, h5.tape, h5.output, h5.size, h5.block⟩
    exact h6.trans (g3 base b1 (fun k hk => (hrow.own k hk).1) (by have := h6.size; omega))
  · have e0 := Below.heap_alloc w o k (blk_lt hk)
    have e1 : w1.heap[k]? = w.heap[k]? := (hat.block k (by have := blk_lt hk; show k < (w.alloc o).heap.size; simp; omega) (fun e => hn (by injection e))).trans e0
    have hk1 : w1.heap[k]? = some (.cells cs t (0, 0)) := e1.trans hk
    exact (g4 k (blk_lt hk1) hn (fun e => hrow.ne hk1 ht e.symm)).trans e1
set_option maxRecDepth 100000 in
set_option maxHeartbeats 2000000 in
theorem decide_calls (w : World) (base B S T : Nat) (win budget : Int) (x : S37) (v : Value) (cur : List S37) (hS : w.cell? ⟨S, 0, none⟩ = some (.func (.func 21) #[.pointer (some ⟨B, 0, none⟩)] #[])) (hT : w.cell? ⟨T, 0, none⟩ = some (.int .i64 budget)) (hSB : S ≠ B) (hTB : T ≠ B)
    (hB_ : w.heap[B]? = some (.cells #[v, .int .i64 win, .int .i64 (sumC cur)] 46 (0, 0))) (hR_ : RowT w base v cur) (hbase_ : base ≤ w.heap.size) (hl_ : cur.length ≤ 500) (ho_ : Ok cur) (p1 : 0 ≤ x.f0) (p2 : x.f0 ≤ 38399) (p3 : 0 ≤ x.f1) (p4 : x.f1 ≤ 1000) (h3 : 1 ≤ win) (h4 : win ≤ 38400) (h5 : 0 ≤ budget) (h6 : budget ≤ 1000000) :
    Calls Try.prog 22 #[.agg #[.int .i64 x.f0, .int .i64 x.f1], .pointer (some ⟨S, 0, none⟩), .pointer (some ⟨T, 0, none⟩), .pointer (some ⟨B, 0, none⟩)] w fun e w' =>
      e = .returned (.bool (if sumC (keep (x.f0 - win) cur) + x.f1 > budget then false else true)) ∧ DecP w base B win (if sumC (keep (x.f0 - win) cur) + x.f1 > budget then keep (x.f0 - win) cur else keep (x.f0 - win) cur ++ [x]) w' := by
  have zB := blk_lt hB_
  have zS : S < w.heap.size := World.block_lt_of_cell? w _ hS
  have zT : T < w.heap.size := World.block_lt_of_cell? w _ hT
  have hB := Aside0.mk hB_
  have hR := Aside0.mk hR_
  have hbase := Aside0.mk hbase_
  have hl := Aside0.mk hl_
  have ho := Aside0.mk ho_
  obtain ⟨s, hs_⟩ : ∃ s, s = sumC (keep (x.f0 - win) cur) := ⟨_, rfl⟩
  have hsb := sumC_bd (keep_ok (t := x.f0 - win) ho_)
  have hsl := keep_len (x.f0 - win) cur
  rw [← hs_] at hsb ⊢
  obtain ⟨s0, s1⟩ := hsb
  have s2 : s ≤ 500000 := by omega
  have hs := Aside0.mk hs_
  have hsl' := Aside0.mk hsl
  clear hB_ hR_ hbase_ hl_ ho_ hs_ s1 hsl
  have hu37 := Try.underlying37
  have hu46 := Try.underlying46
  have hu47 := Try.underlying47
  have hXS : w.heap.size ≠ S := by omega
  have hXT : w.heap.size ≠ T := by omega
  have hXB : w.heap.size ≠ B := by omega
  have hwr_ : IntKind.i64.wrap (s + x.f1) = s + x.f1 := IntWalk.i64_in _ (by omega)
  have hwr' := Aside0.mk hwr_
  clear hwr_
  by_cases hq : s + x.f1 > budget
  · have hq' : budget < s + x.f1 := hq
    have hqb : decide (budget < s + x.f1) = true := decide_eq_true hq
    rw [if_pos hq, if_pos hq]
    have hqq := Aside0.mk hq
    clear hq
    have hwr_ := hwr'.out
    go_enter Try.func22, Try.ntmps22
    go_wp2_with fail
    go_region_held3 (fun w' => w'.cell? ⟨S, 0, none⟩ = some (.func (.func 21) #[.pointer (some ⟨B, 0, none⟩)] #[]) ∧ w'.cell? ⟨w.heap.size, 0, none⟩ = some (.int .i64 x.f0) ∧ w'.cell? ⟨w.heap.size, 1, none⟩ = some (.int .i64 x.f1) ∧ w'.cell? ⟨T, 0, none⟩ = some (.int .i64 budget)) (go_keep) ((go_at_call 21; refine (at_calls _ base B win x.f0 v cur ?qb ?qr ?ql ho.out p1 p2 h3 h4).mono ?_; (case qb => first | exact blk_drew (blk_alloc hB.out _) | exact blk_drewN (blk_alloc hB.out _) _); (case qr => exact hR.out.below (by repeat (with_reducible first | exact Below.refl _ _ | (refine below_set ?_ (by first | omega | exact Nat.le_refl _)) | apply below_alloc | apply pw_below_drewN | apply below_drew1))); (case ql => (have h_ := hl.out; omega)); rintro e w1 ⟨he, hat⟩; rw [← hs.out] at he; subst he; have hat' := Aside0.mk hat; obtain ⟨v', hB1, hR1, hg⟩ := hat; have k0 : w1.cell? ⟨S, 0, none⟩ = some (.func (.func 21) #[.pointer (some ⟨B, 0, none⟩)] #[]) := (gcell hg _ _ (by simp <;> omega) (by simpa using hSB)).trans (by go_simp); have k1 : w1.cell? ⟨w.heap.size, 0, none⟩ = some (.int .i64 x.f0) := (gcell hg _ _ (by simp <;> omega) (by simpa using hXB)).trans (by go_simp); have k2 : w1.cell? ⟨w.heap.size, 1, none⟩ = some (.int .i64 x.f1) := (gcell hg _ _ (by simp <;> omega) (by simpa using hXB)).trans (by go_simp); have k3 : w1.cell? ⟨T, 0, none⟩ = some (.int .i64 budget) := (gcell hg _ _ (by simp <;> omega) (by simpa using hTB)).trans (by go_simp); have hB1' := Aside0.mk hB1; have hR1' := Aside0.mk hR1; have hg' := Aside0.mk hg; clear hB1 hR1 hg))
    go_wp2
    go_ret
    exact ⟨rfl, dec_no _ 1 zB hat'.out 0⟩
  · have hq' : ¬ budget < s + x.f1 := hq
    have hqb : decide (budget < s + x.f1) = false := decide_eq_false hq
    rw [if_neg hq, if_neg hq]
    have hqq := Aside0.mk hq
    clear hq
    have hwr_ := hwr'.out
    go_enter Try.func22, Try.ntmps22
    go_wp2_with fail
    go_region_held3 (fun w' => w'.cell? ⟨S, 0, none⟩ = some (.func (.func 21) #[.pointer (some ⟨B, 0, none⟩)] #[]) ∧ w'.cell? ⟨w.heap.size, 0, none⟩ = some (.int .i64 x.f0) ∧ w'.cell? ⟨w.heap.size, 1, none⟩ = some (.int .i64 x.f1) ∧ w'.cell? ⟨T, 0, none⟩ = some (.int .i64 budget)) (go_keep) ((go_at_call 21; refine (at_calls _ base B win x.f0 v cur ?qb ?qr ?ql ho.out p1 p2 h3 h4).mono ?_; (case qb => first | exact blk_drew (blk_alloc hB.out _) | exact blk_drewN (blk_alloc hB.out _) _); (case qr => exact hR.out.below (by repeat (with_reducible first | exact Below.refl _ _ | (refine below_set ?_ (by first | omega | exact Nat.le_refl _)) | apply below_alloc | apply pw_below_drewN | apply below_drew1))); (case ql => (have h_ := hl.out; omega)); rintro e w1 ⟨he, hat⟩; rw [← hs.out] at he; subst he; have hat' := Aside0.mk hat; obtain ⟨v', hB1, hR1, hg⟩ := hat; have k0 : w1.cell? ⟨S, 0, none⟩ = some (.func (.func 21) #[.pointer (some ⟨B, 0, none⟩)] #[]) := (gcell hg _ _ (by simp <;> omega) (by simpa using hSB)).trans (by go_simp); have k1 : w1.cell? ⟨w.heap.size, 0, none⟩ = some (.int .i64 x.f0) := (gcell hg _ _ (by simp <;> omega) (by simpa using hXB)).trans (by go_simp); have k2 : w1.cell? ⟨w.heap.size, 1, none⟩ = some (.int .i64 x.f1) := (gcell hg _ _ (by simp <;> omega) (by simpa using hXB)).trans (by go_simp); have k3 : w1.cell? ⟨T, 0, none⟩ = some (.int .i64 budget) := (gcell hg _ _ (by simp <;> omega) (by simpa using hTB)).trans (by go_simp); have hB1' := Aside0.mk hB1; have hR1' := Aside0.mk hR1; have hg' := Aside0.mk hg; clear hB1 hR1 hg))
    go_wp2_with fail
    have hsz1 : (w.alloc (.cells #[.int .i64 x.f0, .int .i64 x.f1] 37)).heap.size ≤ w1.heap.size := hg'.out.size
    refine (add_calls _ base B win s x v' (keep (x.f0 - win) cur) (by rw [hs.out]; exact hB1'.out) hR1'.out (by have h1_ := hbase.out; have h2_ := hsz1; simp at h2_; omega) (by have h1_ := hl.out; have h2_ := hsl'.out; omega) s0 (by omega) p3 p4).mono ?_
    rintro e w2 ⟨rfl, hadd⟩
    have hfin := Aside0.mk (dec_yes (.cells #[.int .i64 x.f0, .int .i64 x.f1] 37) 1 zB hsz1 hg'.out hR1'.out 0 (by rw [← hs.out]; exact hadd))
    clear hadd
    go_wp2
    go_ret
    exact ⟨rfl, hfin.out⟩
end Go.Proofs.Ytmndechaeaidcaa.Px
