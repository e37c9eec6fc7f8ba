/- A window's state: 'add' and 'at', walked. -/
import Derived.Test.YtmndechaeaidcaaExtA
import Derived.Deep.DeepCutAuto
import Derived.Deep.CutBlock
import Derived.StillTailTactics
import Derived.Deep.RegionHeld3
import Derived.Deep.RegionLaw
import Derived.Deep.DrawnRows
namespace Go.Proofs.Ytmndechaeaidcaa.Px
open Go.RowKit Go.Proofs.YtmndechaeaidcaaW.PrintWords Go.Proofs.YtmndechaeaidcaaW.PrintLast Go.Proofs.YtmndechaeaidcaaW.PrintMore
attribute [local go_sem] max2_int min2_int max_two min_two max_three min_three max_four min_four World.size_setCell
attribute [local go_sem ↓] Go.wp_at_zero Go.wp_at_succ
set_option linter.unusedVariables false
set_option linter.unusedSimpArgs false

theorem news2 (w : World) (b : Nat) (x y : Value) (h0 : w.cell? ⟨b, 0, none⟩ = some x) (h1 : w.cell? ⟨b, 1, none⟩ = some y) : ∀ (j : Nat) (u : Value), [x, y][j]? = some u → w.cell? ((⟨b, 0, none⟩ : Addr).add j) = some u
  | 0, u, h => by cases h; rw [add_plain]; exact h0
  | 1, u, h => by cases h; rw [add_plain]; exact h1
  | j + 2, u, h => by simp at h
/-- Behind 'add'. -/
def AddP (w : World) (base B : Nat) (win cost : Int) (x : S37) (v : Value) (l : List S37) (w' : World) : Prop :=
  ∃ v', w'.heap[B]? = some (.cells #[v', .int .i64 win, .int .i64 (cost + x.f1)] 46 (0, 0)) ∧ RowT w' base v' (l ++ [x]) ∧ (∀ b0, b0 ≤ B → (∀ k, v.ownBlock = some k → b0 ≤ k) → b0 ≤ w.heap.size → Below b0 w w') ∧ ∀ k, k < w.heap.size → k ≠ B → some k ≠ v.ownBlock → w'.heap[k]? = w.heap[k]?
theorem add_end {w w1 : World} {o1 o2 : Obj} {base B : Nat} {win cost : Int} {x : S37} {v v1 : Value} {l : List S37} (hB : w.heap[B]? = some (.cells #[v, .int .i64 win, .int .i64 cost] 46 (0, 0))) (hR : RowT w base v l) (hg : ((w.alloc o1).alloc o2).drew.grownBy w1 v.ownBlock) (hrow : RowT w1 base v1 (l ++ [x])) :
    AddP w base B win cost x v l ((w1.setCell ⟨B, 0, none⟩ v1).setCell ⟨B, 2, none⟩ (.int .i64 (cost + x.f1))).drew := by
  have hn : some B ≠ v.ownBlock := fun e => hR.ne hB (by decide) e.symm
  have hB1 := blk_grown (blk_drew (blk_alloc (blk_alloc hB o1) o2)) hg hn
  have hn1 := hrow.ne hB1 (by decide)
  refine ⟨v1, ?_, ?_, ?_, ?_⟩
  · exact blk_drew (blk_put (blk_put hB1 0 _ rfl) 2 _ rfl)
  · refine hrow.move (fun k hk => ?_)
    have hk' : k ≠ B := fun e => hn1 (by rw [hk, e])
    exact (Below.heap_setCell _ ⟨B, 2, none⟩ _ k hk').trans (Below.heap_setCell _ ⟨B, 0, none⟩ _ k hk')
  · intro b0 h1 h2 h3
    have h4 : Below b0 w ((w.alloc o1).alloc o2).drew := (((Below.refl b0 w).alloc h3 o1).alloc (by simp; omega) o2).drew
    have h5 : Below b0 w w1 := h4.grown hg (by simp; omega) h2
    exact ((h5.setCell h1 _).setCell h1 _).drew
  · intro k h1 h2 h3
    have e1 := (Below.heap_setCell (w1.setCell ⟨B, 0, none⟩ v1) ⟨B, 2, none⟩ (.int .i64 (cost + x.f1)) k h2).trans (Below.heap_setCell w1 ⟨B, 0, none⟩ v1 k h2)
    have e2 := hg.block k (by simp; omega) h3
    have e3 : ((w.alloc o1).alloc o2).heap[k]? = w.heap[k]? := (Below.heap_alloc (w.alloc o1) o2 k (by simp; omega)).trans (Below.heap_alloc w o1 k h1)
    exact (e1.trans e2).trans e3
set_option maxHeartbeats 1000000 in
theorem add_calls (w : World) (base B : Nat) (win cost : Int) (x : S37) (v : Value) (l : List S37) (hB_ : w.heap[B]? = some (.cells #[v, .int .i64 win, .int .i64 cost] 46 (0, 0))) (hR_ : RowT w base v l) (hbase_ : base ≤ w.heap.size) (hl_ : l.length ≤ 1000) (h1 : 0 ≤ cost) (h2 : cost ≤ 1000000) (h3 : 0 ≤ x.f1) (h4 : x.f1 ≤ 1000) :
    Calls Try.prog 23 #[.pointer (some ⟨B, 0, none⟩), .agg #[.int .i64 x.f0, .int .i64 x.f1]] w fun e w' => e = .returned (.tuple #[]) ∧ AddP w base B win cost x v l w' := by
  obtain ⟨A, cap, hv_, _⟩ := hR_.form
  subst hv_
  have hB := Aside0.mk hB_
  have hR := Aside0.mk hR_
  have hbase := Aside0.mk hbase_
  have hl := Aside0.mk hl_
  have zB : B < w.heap.size := blk_lt hB_
  have b0 : w.cell? ⟨B, 0, none⟩ = some (.slice A l.length cap) := (blk_cell hB_ 0).trans rfl
  have b2 : w.cell? ⟨B, 2, none⟩ = some (.int .i64 cost) := (blk_cell hB_ 2).trans rfl
  have fB0 : w.frozen? ⟨B, 0, none⟩ = false := blk_frozen hB_ 0
  have fB2 : w.frozen? ⟨B, 2, none⟩ = false := blk_frozen hB_ 2
  have hn1 : some B ≠ (Value.slice A l.length cap).ownBlock := fun e => hR_.ne hB_ (by decide) e.symm
  have hn2 : some w.heap.size ≠ (Value.slice A l.length cap).ownBlock := fun e => by have := (hR_.own _ e.symm).2.1; omega
  clear hB_ hR_ hbase_ hl_
  have hu46 := Try.underlying46
  have hu37 := Try.underlying37
  have hu51 := Try.underlying51
  go_enter Try.func23, Try.ntmps23
  go_wp2_with fail
  have hX0 : (w.alloc (.cells #[.int .i64 x.f0, .int .i64 x.f1] 37)).cell? ⟨w.heap.size, 0, none⟩ = some (.int .i64 x.f0) := by go_simp
  go_region_law ((refine RowT.step base (by rfl) (.tmp 8) (.tmp 10) 22 (.agg #[.int .i64 0, .int .i64 0]) (by rfl) Try.underlying22 info37 rfl (.slice A l.length cap) l x ⟨w.heap.size + 1, 0, none⟩ (by rfl) (by rfl) (hR.out.below (by repeat (with_reducible first | exact Below.refl _ _ | (refine below_set ?_ (by first | omega | exact Nat.le_refl _)) | apply below_alloc | apply pw_below_drewN | apply below_drew1))) (by have := hbase.out; simp; omega) hl.out (news2 _ _ _ _ (by go_simp) (by go_simp)) ?_; intro v1 w1 hrow hgr; obtain ⟨A1, cap1, hv1, _, _⟩ := hrow.form; subst hv1; have k0 : w1.cell? ⟨B, 0, none⟩ = some (.slice A l.length cap) := (gcell hgr _ _ (by simp <;> omega) hn1).trans (by go_simp); have k1 : w1.cell? ⟨w.heap.size, 0, none⟩ = some (.int .i64 x.f0) := (gcell hgr _ _ (by simp <;> omega) hn2).trans (by go_simp); have k2 : w1.cell? ⟨w.heap.size, 1, none⟩ = some (.int .i64 x.f1) := (gcell hgr _ _ (by simp <;> omega) hn2).trans (by go_simp); have k3 : w1.frozen? ⟨B, 0, none⟩ = false := blk_frozen (blk_grown (blk_drew (blk_alloc (blk_alloc hB.out _) _)) hgr hn1) 0; have k4 : w1.cell? ⟨B, 2, none⟩ = some (.int .i64 cost) := (gcell hgr _ _ (by simp <;> omega) hn1).trans (by go_simp); have k5 : w1.frozen? ⟨B, 2, none⟩ = false := blk_frozen (blk_grown (blk_drew (blk_alloc (blk_alloc hB.out _) _)) hgr hn1) 2; have k6 : B ≠ w.heap.size := (by omega); have k7 : w.heap.size ≠ B := (by omega)))
  all_goals
    go_wp2_with fail
    go_region
    all_goals
      go_wp2
      go_end0
      exact ⟨rfl, add_end hB.out hR.out hgr (show RowT w1 base (.slice A1 (l.length + 1) cap1) (l ++ [x]) from by rw [show (l ++ [x]).length = l.length + 1 from by simp] at hrow; exact hrow)⟩
end Go.Proofs.Ytmndechaeaidcaa.Px
