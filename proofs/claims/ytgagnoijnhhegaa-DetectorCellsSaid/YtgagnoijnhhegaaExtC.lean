/- Contracts of the detector's Ghost and Reduce, in the form of the print's contracts: what each call hands back, and that it changes nothing that was there. -/
import Derived.Test.YtgagnoijnhhegaaPxx6
import Derived.Test.YtgagnoijnhhegaaPxx8
import Derived.Test.YtgagnoijnhhegaaExtB
import Derived.Deep.RegionWith
namespace Go.Proofs.Ytgagnoijnhhegaa.Px
open Go.RowKit Go.Proofs.YtgagnoijnhhegaaW.PrintWords Go.Proofs.YtgagnoijnhhegaaW.PrintLast Go.Proofs.YtgagnoijnhhegaaW.PrintMore
attribute [local go_sem] max2_int min2_int max_two min_two max_three min_three max_four min_four
set_option linter.unusedVariables false
set_option linter.unusedSimpArgs false

/-! ### detector_Ghost: function 12 -/
def detector_Ghost.f (a0_0 a0_1 a0_2 a0_3 a0_4 a1_0 a1_1 a1_2 a1_3 : Int) : Option (Int × Int × Int × Int × Int) := if (vldB a0_0 a0_1 a0_2 a0_3 a0_4 && ligB a1_0 a1_1 a1_2 a1_3 a0_3) = true then some (gho a1_0 a0_3 a0_4, gho a1_1 a0_3 a0_4, gho a1_2 a0_3 a0_4, gho a1_3 a0_3 a0_4, 0) else some (0, 0, 0, 0, 1)

set_option maxHeartbeats 1000000 in
theorem ghost_no (a0_0 a0_1 a0_2 a0_3 a0_4 a1_0 a1_1 a1_2 a1_3 : Int) (w : World) (hv_ : detector_counts.f a0_0 a0_1 a0_2 a0_3 a0_4 a1_0 a1_1 a1_2 a1_3 = some false) :
    Calls Try.prog 12 #[.agg #[.int .i64 a0_0, .int .i64 a0_1, .int .i64 a0_2, .int .i64 a0_3, .int .i64 a0_4], .agg #[.int .i64 a1_0, .int .i64 a1_1, .int .i64 a1_2, .int .i64 a1_3]] w fun e w' => e = .returned (.tuple #[.agg #[.int .i64 0, .int .i64 0, .int .i64 0, .int .i64 0], .int .i64 1]) ∧ Below w.heap.size w w' := by
  have hv := Aside0.mk hv_
  clear hv_
  have hu23 := Try.underlying23
  have hu25 := Try.underlying25
  have hu27 := Try.underlying27
  go_enter Try.func12, Try.ntmps12
  go_wp2_with fail
  refine (detector_counts.calls a0_0 a0_1 a0_2 a0_3 a0_4 a1_0 a1_1 a1_2 a1_3 false _ hv.out).mono ?_
  rintro e w0 ⟨rfl, hb0⟩
  obtain ⟨hc0, hf0⟩ := bcell hb0
  have z0_0 : w.heap.size < w0.heap.size := by have := hb0.size; (try simp at this); omega
  have z0_1 : w.heap.size + 1 < w0.heap.size := by have := hb0.size; (try simp at this); omega
  have z0_2 : w.heap.size + 1 + 1 < w0.heap.size := by have := hb0.size; (try simp at this); omega
  go_wp2
  refine bodyPost_ret (v := .tuple #[.agg #[.int .i64 0, .int .i64 0, .int .i64 0, .int .i64 0], .int .i64 1]) ?hr rfl ⟨rfl, ?_⟩
  case hr =>
    simp only [results, Try.results12]
    go_simp
  repeat (with_reducible first | exact Below.refl _ _ | (refine below_set ?_ (by first | omega | exact Nat.le_refl _)) | apply below_alloc | apply pw_below_drewN | apply below_drew1 | refine below_step ?_ hb0)

set_option maxHeartbeats 1000000 in
theorem ghost_yes (a0_0 a0_1 a0_2 a0_3 a0_4 a1_0 a1_1 a1_2 a1_3 : Int) (w : World) (hv_ : detector_counts.f a0_0 a0_1 a0_2 a0_3 a0_4 a1_0 a1_1 a1_2 a1_3 = some true) (v_ : vldB a0_0 a0_1 a0_2 a0_3 a0_4 = true) :
    Calls Try.prog 12 #[.agg #[.int .i64 a0_0, .int .i64 a0_1, .int .i64 a0_2, .int .i64 a0_3, .int .i64 a0_4], .agg #[.int .i64 a1_0, .int .i64 a1_1, .int .i64 a1_2, .int .i64 a1_3]] w fun e w' => e = .returned (.tuple #[.agg #[.int .i64 (gho a1_0 a0_3 a0_4), .int .i64 (gho a1_1 a0_3 a0_4), .int .i64 (gho a1_2 a0_3 a0_4), .int .i64 (gho a1_3 a0_3 a0_4)], .int .i64 0]) ∧ Below w.heap.size w w' := by
  obtain ⟨g1, g2, b1, b2, d1, d2, f1, f2, k1, k2⟩ := vld_bd v_
  clear v_
  have hv := Aside0.mk hv_
  clear hv_
  have hu23 := Try.underlying23
  have hu25 := Try.underlying25
  have hu27 := Try.underlying27
  have hmf : ∀ (fn : Fn) (first cap : Array Value) (w : World), (Instr.makeFunc fn first cap).run Try.prog w = .ok (.func fn first cap) w := fun _ _ _ _ => rfl
  go_enter Try.func12, Try.ntmps12
  go_wp2_with fail
  refine (detector_counts.calls a0_0 a0_1 a0_2 a0_3 a0_4 a1_0 a1_1 a1_2 a1_3 true _ hv.out).mono ?_
  rintro e w0 ⟨rfl, hb0⟩
  obtain ⟨hc0, hf0⟩ := bcell hb0
  have z0_0 : w.heap.size < w0.heap.size := by have := hb0.size; (try simp at this); omega
  have z0_1 : w.heap.size + 1 < w0.heap.size := by have := hb0.size; (try simp at this); omega
  have z0_2 : w.heap.size + 1 + 1 < w0.heap.size := by have := hb0.size; (try simp at this); omega
  go_wp2_with fail
  refine (cells27 _ _ a1_0 a1_1 a1_2 a1_3 a0_3 a0_4 _ ?h0 ?h1 ?h2 ?h3 ?h4 ?h5 f1 f2 k1 k2).mono ?_
  case h0 => go_simp
  case h1 => go_simp
  case h2 => go_simp
  case h3 => go_simp
  case h4 => go_simp
  case h5 => go_simp
  rintro e w4 ⟨rfl, hb4⟩
  obtain ⟨hc4, hf4⟩ := bcell hb4
  have z4_0 : w.heap.size < w4.heap.size := by have := hb4.size; (try simp at this); omega
  have z4_1 : w.heap.size + 1 < w4.heap.size := by have := hb4.size; (try simp at this); omega
  have z4_2 : w.heap.size + 1 + 1 < w4.heap.size := by have := hb4.size; (try simp at this); omega
  go_wp2
  refine bodyPost_ret (v := .tuple #[.agg #[.int .i64 (gho a1_0 a0_3 a0_4), .int .i64 (gho a1_1 a0_3 a0_4), .int .i64 (gho a1_2 a0_3 a0_4), .int .i64 (gho a1_3 a0_3 a0_4)], .int .i64 0]) ?hr rfl ⟨rfl, ?_⟩
  case hr =>
    simp only [results, Try.results12]
    go_simp
  repeat (with_reducible first | exact Below.refl _ _ | (refine below_set ?_ (by first | omega | exact Nat.le_refl _)) | apply below_alloc | apply pw_below_drewN | apply below_drew1 | refine below_step ?_ hb4 | refine below_step ?_ hb0)

theorem detector_Ghost.calls (a0_0 a0_1 a0_2 a0_3 a0_4 a1_0 a1_1 a1_2 a1_3 : Int) (r1 r2 r3 r4 r5 : Int) (w : World) (h : detector_Ghost.f a0_0 a0_1 a0_2 a0_3 a0_4 a1_0 a1_1 a1_2 a1_3 = some (r1, r2, r3, r4, r5)) :
    Calls Try.prog 12 #[.agg #[.int .i64 a0_0, .int .i64 a0_1, .int .i64 a0_2, .int .i64 a0_3, .int .i64 a0_4], .agg #[.int .i64 a1_0, .int .i64 a1_1, .int .i64 a1_2, .int .i64 a1_3]] w fun e w' => e = .returned (.tuple #[.agg #[.int .i64 r1, .int .i64 r2, .int .i64 r3, .int .i64 r4], .int .i64 r5]) ∧ Below w.heap.size w w' := by
  have hv := cnt_eq a0_0 a0_1 a0_2 a0_3 a0_4 a1_0 a1_1 a1_2 a1_3
  unfold detector_Ghost.f at h
  cases cv : (vldB a0_0 a0_1 a0_2 a0_3 a0_4 && ligB a1_0 a1_1 a1_2 a1_3 a0_3)
  · rw [if_neg (by simp [cv])] at h
    simp only [Option.some.injEq, Prod.mk.injEq] at h
    obtain ⟨rfl, rfl, rfl, rfl, rfl⟩ := h
    exact ghost_no a0_0 a0_1 a0_2 a0_3 a0_4 a1_0 a1_1 a1_2 a1_3 w (hv.trans (by rw [cv]))
  rw [if_pos cv] at h
  simp only [Option.some.injEq, Prod.mk.injEq] at h
  obtain ⟨rfl, rfl, rfl, rfl, rfl⟩ := h
  exact ghost_yes a0_0 a0_1 a0_2 a0_3 a0_4 a1_0 a1_1 a1_2 a1_3 w (hv.trans (by rw [cv])) (by simp only [Bool.and_eq_true] at cv; exact cv.1)

/-- Is a cell's estimate valid? -/
def okc (bad : Bool) (r f : Int) : Bool := !bad && decide (r < f)
/-- A place of what has been told so far. -/
def kth (j k : Int) (v : Bool) : Bool := if j < k then v else false
/-! ### detector_Reduce: function 14 -/
def detector_Reduce.f (a0_0 a0_1 a0_2 a0_3 a0_4 a1_0 a1_1 a1_2 a1_3 : Int) (a2_0 a2_1 a2_2 a2_3 : Bool) : Option (Int × Int × Int × Int × Bool × Bool × Bool × Bool × Int) :=
  if (vldB a0_0 a0_1 a0_2 a0_3 a0_4 && ligB a1_0 a1_1 a1_2 a1_3 a0_3) = true then some (red (okc a2_0 a1_0 a0_3) a1_0 a0_0 a0_1 a0_2, red (okc a2_1 a1_1 a0_3) a1_1 a0_0 a0_1 a0_2, red (okc a2_2 a1_2 a0_3) a1_2 a0_0 a0_1 a0_2, red (okc a2_3 a1_3 a0_3) a1_3 a0_0 a0_1 a0_2, okc a2_0 a1_0 a0_3, okc a2_1 a1_1 a0_3, okc a2_2 a1_2 a0_3, okc a2_3 a1_3 a0_3, 0) else some (0, 0, 0, 0, false, false, false, false, 1)

set_option maxHeartbeats 1000000 in
theorem reduce_no (a0_0 a0_1 a0_2 a0_3 a0_4 a1_0 a1_1 a1_2 a1_3 : Int) (a2_0 a2_1 a2_2 a2_3 : Bool) (w : World) (hv_ : detector_counts.f a0_0 a0_1 a0_2 a0_3 a0_4 a1_0 a1_1 a1_2 a1_3 = some false) :
    Calls Try.prog 14 #[.agg #[.int .i64 a0_0, .int .i64 a0_1, .int .i64 a0_2, .int .i64 a0_3, .int .i64 a0_4], .agg #[.int .i64 a1_0, .int .i64 a1_1, .int .i64 a1_2, .int .i64 a1_3], .agg #[.bool a2_0, .bool a2_1, .bool a2_2, .bool a2_3]] w fun e w' => e = .returned (.tuple #[.agg #[.int .i64 0, .int .i64 0, .int .i64 0, .int .i64 0], .agg #[.bool false, .bool false, .bool false, .bool false], .int .i64 1]) ∧ Below w.heap.size w w' := by
  have hv := Aside0.mk hv_
  clear hv_
  have hu23 := Try.underlying23
  have hu25 := Try.underlying25
  have hu27 := Try.underlying27
  go_enter Try.func14, Try.ntmps14
  go_wp2_with fail
  refine (detector_counts.calls a0_0 a0_1 a0_2 a0_3 a0_4 a1_0 a1_1 a1_2 a1_3 false _ hv.out).mono ?_
  rintro e w0 ⟨rfl, hb0⟩
  obtain ⟨hc0, hf0⟩ := bcell hb0
  have z0_0 : w.heap.size < w0.heap.size := by have := hb0.size; (try simp at this); omega
  have z0_1 : w.heap.size + 1 < w0.heap.size := by have := hb0.size; (try simp at this); omega
  have z0_2 : w.heap.size + 1 + 1 < w0.heap.size := by have := hb0.size; (try simp at this); omega
  have z0_3 : w.heap.size + 1 + 1 + 1 < w0.heap.size := by have := hb0.size; (try simp at this); omega
  have z0_4 : w.heap.size + 1 + 1 + 1 + 1 < w0.heap.size := by have := hb0.size; (try simp at this); omega
  go_wp2
  refine bodyPost_ret (v := .tuple #[.agg #[.int .i64 0, .int .i64 0, .int .i64 0, .int .i64 0], .agg #[.bool false, .bool false, .bool false, .bool false], .int .i64 1]) ?hr rfl ⟨rfl, ?_⟩
  case hr =>
    simp only [results, Try.results14]
    go_simp
  repeat (with_reducible first | exact Below.refl _ _ | (refine below_set ?_ (by first | omega | exact Nat.le_refl _)) | apply below_alloc | apply pw_below_drewN | apply below_drew1 | refine below_step ?_ hb0)

set_option maxHeartbeats 4000000 in
theorem reduce_yes (a0_0 a0_1 a0_2 a0_3 a0_4 a1_0 a1_1 a1_2 a1_3 : Int) (a2_0 a2_1 a2_2 a2_3 : Bool) (w : World) (hv_ : detector_counts.f a0_0 a0_1 a0_2 a0_3 a0_4 a1_0 a1_1 a1_2 a1_3 = some true) (v_ : vldB a0_0 a0_1 a0_2 a0_3 a0_4 = true) (l_ : ligB a1_0 a1_1 a1_2 a1_3 a0_3 = true) :
    Calls Try.prog 14 #[.agg #[.int .i64 a0_0, .int .i64 a0_1, .int .i64 a0_2, .int .i64 a0_3, .int .i64 a0_4], .agg #[.int .i64 a1_0, .int .i64 a1_1, .int .i64 a1_2, .int .i64 a1_3], .agg #[.bool a2_0, .bool a2_1, .bool a2_2, .bool a2_3]] w fun e w' => e = .returned (.tuple #[.agg #[.int .i64 (red (okc a2_0 a1_0 a0_3) a1_0 a0_0 a0_1 a0_2), .int .i64 (red (okc a2_1 a1_1 a0_3) a1_1 a0_0 a0_1 a0_2), .int .i64 (red (okc a2_2 a1_2 a0_3) a1_2 a0_0 a0_1 a0_2), .int .i64 (red (okc a2_3 a1_3 a0_3) a1_3 a0_0 a0_1 a0_2)], .agg #[.bool (okc a2_0 a1_0 a0_3), .bool (okc a2_1 a1_1 a0_3), .bool (okc a2_2 a1_2 a0_3), .bool (okc a2_3 a1_3 a0_3)], .int .i64 0]) ∧ Below w.heap.size w w' := by
  obtain ⟨g1, g2, b1, b2, d1, d2, f1, f2, k1, k2⟩ := vld_bd v_
  obtain ⟨x10, x20, x11, x21, x12, x22, x13, x23⟩ := lig_bd l_
  clear v_ l_
  have hv := Aside0.mk hv_
  clear hv_
  have hu23 := Try.underlying23
  have hu25 := Try.underlying25
  have hu27 := Try.underlying27
  have hmf : ∀ (fn : Fn) (first cap : Array Value) (w : World), (Instr.makeFunc fn first cap).run Try.prog w = .ok (.func fn first cap) w := fun _ _ _ _ => rfl
  go_enter Try.func14, Try.ntmps14
  go_wp2_with fail
  refine (detector_counts.calls a0_0 a0_1 a0_2 a0_3 a0_4 a1_0 a1_1 a1_2 a1_3 true _ hv.out).mono ?_
  rintro e w0 ⟨rfl, hb0⟩
  obtain ⟨hc0, hf0⟩ := bcell hb0
  have z0_0 : w.heap.size < w0.heap.size := by have := hb0.size; (try simp at this); omega
  have z0_1 : w.heap.size + 1 < w0.heap.size := by have := hb0.size; (try simp at this); omega
  have z0_2 : w.heap.size + 1 + 1 < w0.heap.size := by have := hb0.size; (try simp at this); omega
  have z0_3 : w.heap.size + 1 + 1 + 1 < w0.heap.size := by have := hb0.size; (try simp at this); omega
  have z0_4 : w.heap.size + 1 + 1 + 1 + 1 < w0.heap.size := by have := hb0.size; (try simp at this); omega
  go_wp2
  go_loopw [17] (fun i wr => ∃ k : Int, 0 ≤ k ∧ k ≤ 4 ∧ i = .int .i64 k ∧ Aside0 (wr.heap[w0.heap.size]? = some (.cells #[.bool (kth 0 k (okc a2_0 a1_0 a0_3)), .bool (kth 1 k (okc a2_1 a1_1 a0_3)), .bool (kth 2 k (okc a2_2 a1_2 a0_3)), .bool (kth 3 k (okc a2_3 a1_3 a0_3))] 27 (0, 0))) ∧ Below w0.heap.size w0 wr) (fun i _ => 4 - (intOf i).toNat)
  case atStart => exact ⟨0, by omega, by omega, rfl, ⟨by simpa [kth] using blk_new w0 _⟩, below_alloc (Below.refl _ _) _⟩
  case round =>
    obtain ⟨k, hk0, hk, rfl, HBK, hbr⟩ := hrel
    obtain ⟨hcr, hfr⟩ := bcell hbr
    have zr := blk_lt HBK.out
    have zr_0 : w.heap.size < wr.heap.size := by have := hbr.size; omega
    have zn_0 : ¬ (w.heap.size = w0.heap.size) := by omega
    have zr_1 : w.heap.size + 1 < wr.heap.size := by have := hbr.size; omega
    have zn_1 : ¬ (w.heap.size + 1 = w0.heap.size) := by omega
    have zr_2 : w.heap.size + 1 + 1 < wr.heap.size := by have := hbr.size; omega
    have zn_2 : ¬ (w.heap.size + 1 + 1 = w0.heap.size) := by omega
    have zr_3 : w.heap.size + 1 + 1 + 1 < wr.heap.size := by have := hbr.size; omega
    have zn_3 : ¬ (w.heap.size + 1 + 1 + 1 = w0.heap.size) := by omega
    have zr_4 : w.heap.size + 1 + 1 + 1 + 1 < wr.heap.size := by have := hbr.size; omega
    have zn_4 : ¬ (w.heap.size + 1 + 1 + 1 + 1 = w0.heap.size) := by omega
    have hk5 : k = 0 ∨ k = 1 ∨ k = 2 ∨ k = 3 ∨ k = 4 := by omega
    rcases hk5 with rfl | rfl | rfl | rfl | rfl
    · have hk0 : wr.cell? ⟨w0.heap.size, 0, none⟩ = some (.bool (kth 0 0 (okc a2_0 a1_0 a0_3))) := (blk_cell HBK.out 0).trans rfl
      have hfz : wr.frozen? ⟨w0.heap.size, 0, none⟩ = false := blk_frozen HBK.out 0
      rcases Bool.eq_false_or_eq_true a2_0 with hbad | hbad
      · subst hbad
        go_wp2
        go_region
        go_wp2
        go_roundw
        case rel => exact ⟨1, by omega, by omega, rfl, ⟨blk_drew (blk_put HBK.out 0 _ (by simp [kth, okc]))⟩, below_drew1 (below_set hbr (Nat.le_refl _))⟩
        case measure => simp [intOf]
      · subst hbad
        by_cases c : a1_0 < a0_3
        · have c' : decide (a1_0 < a0_3) = true := decide_eq_true c
          go_wp2
          go_region
          go_wp2
          go_roundw
          case rel => exact ⟨1, by omega, by omega, rfl, ⟨blk_drew (blk_put HBK.out 0 _ (by simp [kth, okc, c']))⟩, below_drew1 (below_set hbr (Nat.le_refl _))⟩
          case measure => simp [intOf]
        · have c' : decide (a1_0 < a0_3) = false := decide_eq_false c
          go_wp2
          go_region
          go_wp2
          go_roundw
          case rel => exact ⟨1, by omega, by omega, rfl, ⟨blk_drew (blk_put HBK.out 0 _ (by simp [kth, okc, c']))⟩, below_drew1 (below_set hbr (Nat.le_refl _))⟩
          case measure => simp [intOf]
    · have hk1 : wr.cell? ⟨w0.heap.size, 1, none⟩ = some (.bool (kth 1 1 (okc a2_1 a1_1 a0_3))) := (blk_cell HBK.out 1).trans rfl
      have hfz : wr.frozen? ⟨w0.heap.size, 1, none⟩ = false := blk_frozen HBK.out 1
      rcases Bool.eq_false_or_eq_true a2_1 with hbad | hbad
      · subst hbad
        go_wp2
        go_region
        go_wp2
        go_roundw
        case rel => exact ⟨2, by omega, by omega, rfl, ⟨blk_drew (blk_put HBK.out 1 _ (by simp [kth, okc]))⟩, below_drew1 (below_set hbr (Nat.le_refl _))⟩
        case measure => simp [intOf]
      · subst hbad
        by_cases c : a1_1 < a0_3
        · have c' : decide (a1_1 < a0_3) = true := decide_eq_true c
          go_wp2
          go_region
          go_wp2
          go_roundw
          case rel => exact ⟨2, by omega, by omega, rfl, ⟨blk_drew (blk_put HBK.out 1 _ (by simp [kth, okc, c']))⟩, below_drew1 (below_set hbr (Nat.le_refl _))⟩
          case measure => simp [intOf]
        · have c' : decide (a1_1 < a0_3) = false := decide_eq_false c
          go_wp2
          go_region
          go_wp2
          go_roundw
          case rel => exact ⟨2, by omega, by omega, rfl, ⟨blk_drew (blk_put HBK.out 1 _ (by simp [kth, okc, c']))⟩, below_drew1 (below_set hbr (Nat.le_refl _))⟩
          case measure => simp [intOf]
    · have hk2 : wr.cell? ⟨w0.heap.size, 2, none⟩ = some (.bool (kth 2 2 (okc a2_2 a1_2 a0_3))) := (blk_cell HBK.out 2).trans rfl
      have hfz : wr.frozen? ⟨w0.heap.size, 2, none⟩ = false := blk_frozen HBK.out 2
      rcases Bool.eq_false_or_eq_true a2_2 with hbad | hbad
      · subst hbad
        go_wp2
        go_region
        go_wp2
        go_roundw
        case rel => exact ⟨3, by omega, by omega, rfl, ⟨blk_drew (blk_put HBK.out 2 _ (by simp [kth, okc]))⟩, below_drew1 (below_set hbr (Nat.le_refl _))⟩
        case measure => simp [intOf]
      · subst hbad
        by_cases c : a1_2 < a0_3
        · have c' : decide (a1_2 < a0_3) = true := decide_eq_true c
          go_wp2
          go_region
          go_wp2
          go_roundw
          case rel => exact ⟨3, by omega, by omega, rfl, ⟨blk_drew (blk_put HBK.out 2 _ (by simp [kth, okc, c']))⟩, below_drew1 (below_set hbr (Nat.le_refl _))⟩
          case measure => simp [intOf]
        · have c' : decide (a1_2 < a0_3) = false := decide_eq_false c
          go_wp2
          go_region
          go_wp2
          go_roundw
          case rel => exact ⟨3, by omega, by omega, rfl, ⟨blk_drew (blk_put HBK.out 2 _ (by simp [kth, okc, c']))⟩, below_drew1 (below_set hbr (Nat.le_refl _))⟩
          case measure => simp [intOf]
    · have hk3 : wr.cell? ⟨w0.heap.size, 3, none⟩ = some (.bool (kth 3 3 (okc a2_3 a1_3 a0_3))) := (blk_cell HBK.out 3).trans rfl
      have hfz : wr.frozen? ⟨w0.heap.size, 3, none⟩ = false := blk_frozen HBK.out 3
      rcases Bool.eq_false_or_eq_true a2_3 with hbad | hbad
      · subst hbad
        go_wp2
        go_region
        go_wp2
        go_roundw
        case rel => exact ⟨4, by omega, by omega, rfl, ⟨blk_drew (blk_put HBK.out 3 _ (by simp [kth, okc]))⟩, below_drew1 (below_set hbr (Nat.le_refl _))⟩
        case measure => simp [intOf]
      · subst hbad
        by_cases c : a1_3 < a0_3
        · have c' : decide (a1_3 < a0_3) = true := decide_eq_true c
          go_wp2
          go_region
          go_wp2
          go_roundw
          case rel => exact ⟨4, by omega, by omega, rfl, ⟨blk_drew (blk_put HBK.out 3 _ (by simp [kth, okc, c']))⟩, below_drew1 (below_set hbr (Nat.le_refl _))⟩
          case measure => simp [intOf]
        · have c' : decide (a1_3 < a0_3) = false := decide_eq_false c
          go_wp2
          go_region
          go_wp2
          go_roundw
          case rel => exact ⟨4, by omega, by omega, rfl, ⟨blk_drew (blk_put HBK.out 3 _ (by simp [kth, okc, c']))⟩, below_drew1 (below_set hbr (Nat.le_refl _))⟩
          case measure => simp [intOf]
    · have hk0 : wr.cell? ⟨w0.heap.size, 0, none⟩ = some (.bool (okc a2_0 a1_0 a0_3)) := (blk_cell HBK.out 0).trans rfl
      have hk1 : wr.cell? ⟨w0.heap.size, 1, none⟩ = some (.bool (okc a2_1 a1_1 a0_3)) := (blk_cell HBK.out 1).trans rfl
      have hk2 : wr.cell? ⟨w0.heap.size, 2, none⟩ = some (.bool (okc a2_2 a1_2 a0_3)) := (blk_cell HBK.out 2).trans rfl
      have hk3 : wr.cell? ⟨w0.heap.size, 3, none⟩ = some (.bool (okc a2_3 a1_3 a0_3)) := (blk_cell HBK.out 3).trans rfl
      have H9 : Calls Try.prog 21 #[.func (.func 29) #[] #[.pointer (some ⟨w0.heap.size, 0, none⟩), .pointer (some ⟨w.heap.size + 1, 0, none⟩), .pointer (some ⟨w.heap.size, 0, none⟩)]] wr.drew fun e w' => e = .returned (.agg #[.int .i64 (red (okc a2_0 a1_0 a0_3) a1_0 a0_0 a0_1 a0_2), .int .i64 (red (okc a2_1 a1_1 a0_3) a1_1 a0_0 a0_1 a0_2), .int .i64 (red (okc a2_2 a1_2 a0_3) a1_2 a0_0 a0_1 a0_2), .int .i64 (red (okc a2_3 a1_3 a0_3) a1_3 a0_0 a0_1 a0_2)]) ∧ Below wr.drew.heap.size wr.drew w' := by
        refine (cells29 _ _ _ (okc a2_0 a1_0 a0_3) (okc a2_1 a1_1 a0_3) (okc a2_2 a1_2 a0_3) (okc a2_3 a1_3 a0_3) a1_0 a1_1 a1_2 a1_3 a0_0 a0_1 a0_2 _ ?h0 ?h1 ?h2 ?h3 ?h4 ?h5 ?h6 ?h7 ?h8 ?h9 ?h10 g1 g2 b1 b2 d1 d2 x10 (by omega) x11 (by omega) x12 (by omega) x13 (by omega)).mono ?_
        case h0 => go_simp
        case h1 => go_simp
        case h2 => go_simp
        case h3 => go_simp
        case h4 => go_simp
        case h5 => go_simp
        case h6 => go_simp
        case h7 => go_simp
        case h8 => go_simp
        case h9 => go_simp
        case h10 => go_simp
        rintro e w4 ⟨rfl, hb4⟩
        exact ⟨rfl, hb4⟩
      have H9' := Aside0.mk H9
      clear H9
      go_wp2
      go_region_with (go_at_call 21; refine H9'.out.mono ?_; rintro e w4 ⟨rfl, hb4⟩; have HC4 : (∀ b o, b < wr.heap.size → w4.cell? ⟨b, o, none⟩ = wr.cell? ⟨b, o, none⟩) ∧ (∀ b o, b < wr.heap.size → w4.frozen? ⟨b, o, none⟩ = wr.frozen? ⟨b, o, none⟩) := ⟨fun b o h => hb4.cell (p := ⟨b, o, none⟩) h, fun b o h => hb4.frozen (p := ⟨b, o, none⟩) h⟩; obtain ⟨hc4, hf4⟩ := HC4; have zz : wr.heap.size ≤ w4.heap.size := hb4.size; have z4_0 : w.heap.size < w4.heap.size := (by omega); have z4_1 : w.heap.size + 1 < w4.heap.size := (by omega); have z4_2 : w.heap.size + 1 + 1 < w4.heap.size := (by omega); have z4_3 : w.heap.size + 1 + 1 + 1 < w4.heap.size := (by omega); have z4_4 : w.heap.size + 1 + 1 + 1 + 1 < w4.heap.size := (by omega); have z4_5 : w0.heap.size < w4.heap.size := (by omega))
      all_goals
        go_wp2
        refine bodyPost_ret (v := .tuple #[.agg #[.int .i64 (red (okc a2_0 a1_0 a0_3) a1_0 a0_0 a0_1 a0_2), .int .i64 (red (okc a2_1 a1_1 a0_3) a1_1 a0_0 a0_1 a0_2), .int .i64 (red (okc a2_2 a1_2 a0_3) a1_2 a0_0 a0_1 a0_2), .int .i64 (red (okc a2_3 a1_3 a0_3) a1_3 a0_0 a0_1 a0_2)], .agg #[.bool (okc a2_0 a1_0 a0_3), .bool (okc a2_1 a1_1 a0_3), .bool (okc a2_2 a1_2 a0_3), .bool (okc a2_3 a1_3 a0_3)], .int .i64 0]) ?hr rfl ⟨rfl, ?_⟩
        case hr =>
          simp only [results, Try.results14]
          go_simp
        repeat (with_reducible first | exact Below.refl _ _ | (refine below_set ?_ (by first | omega | exact Nat.le_refl _)) | apply below_alloc | apply pw_below_drewN | apply below_drew1 | refine below_step ?_ hb4 | refine below_step ?_ hbr | refine below_step ?_ hb0)

theorem detector_Reduce.calls (a0_0 a0_1 a0_2 a0_3 a0_4 a1_0 a1_1 a1_2 a1_3 : Int) (a2_0 a2_1 a2_2 a2_3 : Bool) (r1 r2 r3 r4 : Int) (r5 r6 r7 r8 : Bool) (r9 : Int) (w : World) (h : detector_Reduce.f a0_0 a0_1 a0_2 a0_3 a0_4 a1_0 a1_1 a1_2 a1_3 a2_0 a2_1 a2_2 a2_3 = some (r1, r2, r3, r4, r5, r6, r7, r8, r9)) :
    Calls Try.prog 14 #[.agg #[.int .i64 a0_0, .int .i64 a0_1, .int .i64 a0_2, .int .i64 a0_3, .int .i64 a0_4], .agg #[.int .i64 a1_0, .int .i64 a1_1, .int .i64 a1_2, .int .i64 a1_3], .agg #[.bool a2_0, .bool a2_1, .bool a2_2, .bool a2_3]] w fun e w' => e = .returned (.tuple #[.agg #[.int .i64 r1, .int .i64 r2, .int .i64 r3, .int .i64 r4], .agg #[.bool r5, .bool r6, .bool r7, .bool r8], .int .i64 r9]) ∧ Below w.heap.size w w' := by
  have hv := cnt_eq a0_0 a0_1 a0_2 a0_3 a0_4 a1_0 a1_1 a1_2 a1_3
  unfold detector_Reduce.f at h
  cases cv : (vldB a0_0 a0_1 a0_2 a0_3 a0_4 && ligB a1_0 a1_1 a1_2 a1_3 a0_3)
  · rw [if_neg (by simp [cv])] at h
    simp only [Option.some.injEq, Prod.mk.injEq] at h
    obtain ⟨rfl, rfl, rfl, rfl, rfl, rfl, rfl, rfl, rfl⟩ := h
    exact reduce_no a0_0 a0_1 a0_2 a0_3 a0_4 a1_0 a1_1 a1_2 a1_3 a2_0 a2_1 a2_2 a2_3 w (hv.trans (by rw [cv]))
  rw [if_pos cv] at h
  simp only [Option.some.injEq, Prod.mk.injEq] at h
  obtain ⟨rfl, rfl, rfl, rfl, rfl, rfl, rfl, rfl, rfl⟩ := h
  simp only [Bool.and_eq_true] at cv
  exact reduce_yes a0_0 a0_1 a0_2 a0_3 a0_4 a1_0 a1_1 a1_2 a1_3 a2_0 a2_1 a2_2 a2_3 w (hv.trans (by simp [cv])) cv.1 cv.2

end Go.Proofs.Ytgagnoijnhhegaa.Px
