/- The step of a plan: walked. -/
import Derived.Test.YtopbajcnihboiaaExtA
namespace Go.Proofs.Ytopbajcnihboiaa.Px
open Go.RowKit Go.Proofs.YtopbajcnihboiaaW.PrintWords Go.Proofs.YtopbajcnihboiaaW.PrintLast Go.Proofs.YtopbajcnihboiaaW.PrintMore
set_option linter.unusedVariables false
set_option linter.unusedSimpArgs false
def StepP (w : World) (base O T : Nat) (p : Int) (v : Value) (xs : List Int) (w' : World) : Prop :=
  ∃ v', w'.heap[O]? = some (.cells #[v'] 22 (0, 0)) ∧ (Kd.int .i64).R 3 w' base (fun k => k ≠ T) v' (xs ++ [p]) ∧ w'.heap[T]? = some (.cells #[.int .i64 p] 3 (0, 0)) ∧ Below base w w' ∧ ∀ g, g < w.heap.size → g ≠ O → g ≠ T → some g ≠ v.ownBlock → w'.heap[g]? = w.heap[g]?
theorem step_end {w w1 : World} {base O T : Nat} {p cur : Int} {v v1 : Value} {xs : List Int} (hOw : O < w.heap.size) (hTw : T < w.heap.size) (hbO : base ≤ O) (hbT : base ≤ T) (hOT : O ≠ T) (hO : w.heap[O]? = some (.cells #[v] 22 (0, 0))) (hT : w.heap[T]? = some (.cells #[.int .i64 cur] 3 (0, 0)))
    (hvO : some O ≠ v.ownBlock) (hvT : some T ≠ v.ownBlock) (ho : (Kd.int .i64).R 3 w1 base (fun k => k ≠ T) v1 (xs ++ [p])) (hb : Below base w w1) (hg : w.grownBy w1 v.ownBlock) (hat : v1.ownBlock = v.ownBlock ∨ ∃ b, v1.ownBlock = some b ∧ w.heap.size ≤ b) :
    StepP w base O T p v xs ((w1.setCell ⟨O, 0, none⟩ v1).setCell ⟨T, 0, none⟩ (.int .i64 p)) := by
  have hO1 := blk_grown hO hg hvO
  have hT1 := blk_grown hT hg hvT
  have h1 : some O ≠ v1.ownBlock := fun e => by
    rcases hat with h | ⟨b, h, hb_⟩
    · exact hvO (e.trans h)
    · rw [h] at e
      injection e with e
      omega
  refine ⟨v1, blk_far (blk_put hO1 0 _ rfl) hOT _, ?_, blk_put (blk_far hT1 (Ne.symm hOT) _) 0 _ rfl, (hb.setCell hbO _).setCell hbT _, fun g hgw hgO hgT hgv => ?_⟩
  · have hr := Kd.R_mono (Kd.R_tight2 rfl ho) (ok' := fun k => k ≠ O ∧ k ≠ T) (fun k hk => ⟨fun e => h1 (by rw [← e]; exact hk.1), hk.2⟩)
    have hr2 := Kd.R_far hr (p := ⟨O, 0, none⟩) (fun k hk => hk.1) v1
    have hr3 := Kd.R_far hr2 (p := ⟨T, 0, none⟩) (fun k hk => hk.2) (.int .i64 p)
    exact Kd.R_mono hr3 (fun k hk => hk.2)
  · have e1 := Below.heap_setCell (w1.setCell ⟨O, 0, none⟩ v1) ⟨T, 0, none⟩ (.int .i64 p) g hgT
    have e2 := Below.heap_setCell w1 ⟨O, 0, none⟩ v1 g hgO
    exact e1.trans (e2.trans (hg.block g hgw hgv))
set_option maxHeartbeats 1000000 in
theorem step_calls (w : World) (base O T : Nat) (p cur : Int) (v : Value) (xs : List Int) (hO : w.heap[O]? = some (.cells #[v] 22 (0, 0))) (hT : w.heap[T]? = some (.cells #[.int .i64 cur] 3 (0, 0))) (hOT : O ≠ T) (hbO : base ≤ O) (hbT : base ≤ T)
    (hR : (Kd.int .i64).R 3 w base (fun k => k ≠ T) v xs) (hl : xs.length ≤ 1000) :
    Calls Try.prog 26 #[.int .i64 p, .pointer (some ⟨O, 0, none⟩), .pointer (some ⟨T, 0, none⟩)] w fun e w' => e = .returned (.tuple #[]) ∧ StepP w base O T p v xs w' := by
  have hu22 := Try.underlying22
  have HO := Aside0.mk hO
  have HT := Aside0.mk hT
  have HR := Aside0.mk hR
  have hvO := Aside0.mk (Kd.R_ne hR hO (by decide))
  have hvT := Aside0.mk (Kd.R_away hR (g := T) (fun k hk => hk))
  have HL := Aside0.mk hl
  have o0 : w.cell? ⟨O, 0, none⟩ = some v := (blk_cell hO 0).trans rfl
  have zO := blk_lt hO
  have zT := blk_lt hT
  clear hO hT hR hl
  go_enter Try.func26, Try.ntmps26
  go_wp2_with (first | ((with_reducible refine gate_builtin (b := .append) rfl ?_); at_builtin; refine Kd.R_append (Kd.int .i64) (w0 := w) base rfl (.tmp 4) (.tmp 6) 22 3 (.int .i64 0) 8 rfl Try.underlying22 info3 rfl (by decide) (by omega) v xs p [.int .i64 p] (fun k => k ≠ T) (fun _ => False) rfl rfl ?aP (fun _ hk => hk.elim) ?aF ?aO ?aB ?aS ?aL ?_; (case aP => exact rfl); (case aB => exact Below.refl _ _); (case aF => exact (fun k hk he => Nat.lt_irrefl _ (Nat.lt_of_lt_of_le (he ▸ zT) hk))); (case aO => exact HR.out); (case aS => exact (Nat.le_of_lt (Nat.lt_of_le_of_lt hbO zO))); (case aL => have := HL.out; omega); intro v1 w1 ho hb hg hat; obtain ⟨A1, c1, rfl⟩ := Kd.R_slice ho; have H1 := Aside0.mk (step_end zO zT hbO hbT hOT HO.out HT.out hvO.out hvT.out ho hb hg hat); have k0 : w1.cell? ⟨O, 0, none⟩ = some v := (blk_cell (blk_grown HO.out hg hvO.out) 0).trans rfl; have k1 : w1.frozen? ⟨O, 0, none⟩ = false := blk_frozen (blk_grown HO.out hg hvO.out) 0; have k2 : w1.cell? ⟨T, 0, none⟩ = some (.int .i64 cur) := (blk_cell (blk_grown HT.out hg hvT.out) 0).trans rfl; have k3 : w1.frozen? ⟨T, 0, none⟩ = false := blk_frozen (blk_grown HT.out hg hvT.out) 0; clear ho hb hg hat))
  have H2 := Aside0.mk (show StepP w base O T p v xs ((w1.setCell ⟨O, 0, none⟩ (.slice A1 (xs.length + 1) c1)).setCell ⟨T, 0, none⟩ (.int .i64 p)) from by have := H1.out; rw [List.length_append] at this; exact this)
  clear H1
  go_end0
  exact ⟨rfl, H2.out⟩
end Go.Proofs.Ytopbajcnihboiaa.Px
