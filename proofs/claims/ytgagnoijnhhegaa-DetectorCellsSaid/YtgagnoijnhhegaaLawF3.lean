/- The law DetectorCells, walked. -/
import Derived.Test.YtgagnoijnhhegaaLawB
import Derived.Deep.DeepCutAuto
import Derived.Deep.CutBlock
import Derived.BigRegion
namespace Go.Proofs.Ytgagnoijnhhegaa.Px
open Go.RowKit Go.Proofs.YtgagnoijnhhegaaW.PrintWords Go.Proofs.YtgagnoijnhhegaaW.PrintLast Go.Proofs.YtgagnoijnhhegaaW.PrintMore
attribute [local go_sem] max2_int min2_int max_two min_two max_three min_three max_four min_four World.size_setCell
attribute [local go_sem high] eqA25 eqM27
set_option linter.unusedVariables false
set_option linter.unusedSimpArgs false
theorem blk_second3 (w : World) (x y : Obj) : ((w.alloc x).alloc y).heap[w.heap.size + 1]? = some y := by
  have h := blk_new (w.alloc x) y
  rw [show (w.alloc x).heap.size = w.heap.size + 1 from by simp] at h
  exact h
theorem three_blk3 (w : World) (x y z : Obj) : (((w.alloc x).alloc y).alloc z).drew.heap[w.heap.size]? = some x ∧ (((w.alloc x).alloc y).alloc z).drew.heap[w.heap.size + 1]? = some y ∧ (((w.alloc x).alloc y).alloc z).drew.heap[w.heap.size + 1 + 1]? = some z := by
  refine ⟨?_, ?_, ?_⟩
  · exact blk_drew (blk_alloc (blk_alloc (blk_new w x) y) z)
  · have h := blk_new (w.alloc x) y
    rw [show (w.alloc x).heap.size = w.heap.size + 1 from by simp] at h
    exact blk_drew (blk_alloc h z)
  · have h := blk_new ((w.alloc x).alloc y) z
    rw [show ((w.alloc x).alloc y).heap.size = w.heap.size + 1 + 1 from by simp] at h
    exact blk_drew h
def cells3.T18 : Bool × List (List Nat × List Nat) := (true, [([], []), ([], []), ([], []), ([], []), ([], []), ([4], [4]), ([5], [5]), ([], []), ([7], [7]), ([8], [8]), ([], []), ([10], [10]), ([11], [11]), ([], []), ([13], [13]), ([14], [14]), ([0, 0, 4, 5, 6], [0]), ([16, 6, 0, 4, 5, 6], [6, 16]), ([1, 0, 1, 4, 5, 6, 7, 8, 9, 16, 17], [1]), ([18, 9, 17, 0, 1, 4, 5, 6, 7, 8, 9, 16, 17], [9, 18]), ([2, 0, 1, 2, 4, 5, 6, 7, 8, 9, 10, 11, 12, 16, 17, 18, 19], [2]), ([20, 12, 19, 0, 1, 2, 4, 5, 6, 7, 8, 9, 10, 11, 12, 16, 17, 18, 19], [12, 20]), ([3, 0, 1, 2, 3, 4, 5, 6, 7, 8, 9, 10, 11, 12, 13, 14, 15, 16, 17, 18, 19, 20, 21], [3]), ([22, 15, 21, 0, 1, 2, 3, 4, 5, 6, 7, 8, 9, 10, 11, 12, 13, 14, 15, 16, 17, 18, 19, 20, 21], [15, 22])])
def cells3.B18 : List Nat := [0, 0, 0, 0, 0, 16, 48, 0, 128, 384, 0, 1024, 3072, 0, 8192, 24576, 113, 65649, 197619, 459763, 991223, 2039799, 4194303, 8388607]
theorem cells3.tab18 : rtab .any (opsOf Try.f6 18) = cells3.T18 := by kernel_rfl
theorem cells3.bits18 : waitsOk cells3.T18.2 cells3.B18 = true := by kernel_rfl
set_option maxRecDepth 100000 in
set_option maxHeartbeats 32000000 in
theorem cells_ok3 (a0_0 a0_1 a0_2 a0_3 a0_4 : Int) (a1_0 a1_1 a1_2 a1_3 : Int) (a2_0 a2_1 a2_2 a2_3 : Int) (a3_0 a3_1 a3_2 a3_3 : Int) (a4_0 a4_1 a4_2 a4_3 : Int) (a5 : Int) (a6_0 a6_1 a6_2 a6_3 : Bool) (a7_0 a7_1 a7_2 a7_3 : Bool) (a8 : Int) (e0 e1 e2 e3 f0 f1 f2 f3 x0 x1 x2 x3 y0 y1 y2 y3 p0 p1 p2 p3 q0 q1 q2 q3 : Int) (s0 s1 s2 s3 t0 t1 t2 t3 : Bool) (w : World) (h8 : 0 ≤ a8) (h9 : a8 ≤ 255) (hk : a8 % 4 = 3) (hE_ : detector_Expose.f a0_0 a0_1 a0_2 a0_3 a0_4 a1_0 a1_1 a1_2 a1_3 a2_0 a2_1 a2_2 a2_3 a5 a6_0 a6_1 a6_2 a6_3 = some (e0, e1, e2, e3, 0)) (hF_ : detector_Expose.f a0_0 a0_1 a0_2 a0_3 a0_4 a3_0 a3_1 a3_2 a3_3 a4_0 a4_1 a4_2 a4_3 a5 a7_0 a7_1 a7_2 a7_3 = some (f0, f1, f2, f3, 0)) (hX_ : detector_Ghost.f a0_0 a0_1 a0_2 a0_3 a0_4 e0 e1 e2 e3 = some (x0, x1, x2, x3, 0)) (hY_ : detector_Ghost.f a0_0 a0_1 a0_2 a0_3 a0_4 f0 f1 f2 f3 = some (y0, y1, y2, y3, 0)) (hP_ : detector_Reduce.f a0_0 a0_1 a0_2 a0_3 a0_4 e0 e1 e2 e3 a6_0 a6_1 a6_2 a6_3 = some (p0, p1, p2, p3, s0, s1, s2, s3, 0)) (hQ_ : detector_Reduce.f a0_0 a0_1 a0_2 a0_3 a0_4 f0 f1 f2 f3 a7_0 a7_1 a7_2 a7_3 = some (q0, q1, q2, q3, t0, t1, t2, t3, 0)) (hH0_ : detector_Expose.f a0_0 a0_1 a0_2 a0_3 a0_4 a3_0 a1_1 a1_2 a1_3 a4_0 a2_1 a2_2 a2_3 a5 a7_0 a6_1 a6_2 a6_3 = some (f0, e1, e2, e3, 0)) (hZ0_ : detector_Ghost.f a0_0 a0_1 a0_2 a0_3 a0_4 f0 e1 e2 e3 = some (y0, x1, x2, x3, 0)) (hR0_ : detector_Reduce.f a0_0 a0_1 a0_2 a0_3 a0_4 f0 e1 e2 e3 a7_0 a6_1 a6_2 a6_3 = some (q0, p1, p2, p3, t0, s1, s2, s3, 0)) (hH1_ : detector_Expose.f a0_0 a0_1 a0_2 a0_3 a0_4 a1_0 a3_1 a1_2 a1_3 a2_0 a4_1 a2_2 a2_3 a5 a6_0 a7_1 a6_2 a6_3 = some (e0, f1, e2, e3, 0)) (hZ1_ : detector_Ghost.f a0_0 a0_1 a0_2 a0_3 a0_4 e0 f1 e2 e3 = some (x0, y1, x2, x3, 0)) (hR1_ : detector_Reduce.f a0_0 a0_1 a0_2 a0_3 a0_4 e0 f1 e2 e3 a6_0 a7_1 a6_2 a6_3 = some (p0, q1, p2, p3, s0, t1, s2, s3, 0)) (hH2_ : detector_Expose.f a0_0 a0_1 a0_2 a0_3 a0_4 a1_0 a1_1 a3_2 a1_3 a2_0 a2_1 a4_2 a2_3 a5 a6_0 a6_1 a7_2 a6_3 = some (e0, e1, f2, e3, 0)) (hZ2_ : detector_Ghost.f a0_0 a0_1 a0_2 a0_3 a0_4 e0 e1 f2 e3 = some (x0, x1, y2, x3, 0)) (hR2_ : detector_Reduce.f a0_0 a0_1 a0_2 a0_3 a0_4 e0 e1 f2 e3 a6_0 a6_1 a7_2 a6_3 = some (p0, p1, q2, p3, s0, s1, t2, s3, 0)) (hH3_ : detector_Expose.f a0_0 a0_1 a0_2 a0_3 a0_4 a1_0 a1_1 a1_2 a3_3 a2_0 a2_1 a2_2 a4_3 a5 a6_0 a6_1 a6_2 a7_3 = some (e0, e1, e2, f3, 0)) (hZ3_ : detector_Ghost.f a0_0 a0_1 a0_2 a0_3 a0_4 e0 e1 e2 f3 = some (x0, x1, x2, y3, 0)) (hR3_ : detector_Reduce.f a0_0 a0_1 a0_2 a0_3 a0_4 e0 e1 e2 f3 a6_0 a6_1 a6_2 a7_3 = some (p0, p1, p2, q3, s0, s1, s2, t3, 0)) :
    Calls Try.prog 6 #[.agg #[.int .i64 a0_0, .int .i64 a0_1, .int .i64 a0_2, .int .i64 a0_3, .int .i64 a0_4], .agg #[.int .i64 a1_0, .int .i64 a1_1, .int .i64 a1_2, .int .i64 a1_3], .agg #[.int .i64 a2_0, .int .i64 a2_1, .int .i64 a2_2, .int .i64 a2_3], .agg #[.int .i64 a3_0, .int .i64 a3_1, .int .i64 a3_2, .int .i64 a3_3], .agg #[.int .i64 a4_0, .int .i64 a4_1, .int .i64 a4_2, .int .i64 a4_3], .int .i64 a5, .agg #[.bool a6_0, .bool a6_1, .bool a6_2, .bool a6_3], .agg #[.bool a7_0, .bool a7_1, .bool a7_2, .bool a7_3], .int .u8 a8] w fun e w' => e = .returned (.bool true) ∧ Below w.heap.size w w' := by
  have hE := Aside0.mk hE_
  clear hE_
  have hF := Aside0.mk hF_
  clear hF_
  have hX := Aside0.mk hX_
  clear hX_
  have hY := Aside0.mk hY_
  clear hY_
  have hP := Aside0.mk hP_
  clear hP_
  have hQ := Aside0.mk hQ_
  clear hQ_
  have hH0 := Aside0.mk hH0_
  clear hH0_
  have hZ0 := Aside0.mk hZ0_
  clear hZ0_
  have hR0 := Aside0.mk hR0_
  clear hR0_
  have hH1 := Aside0.mk hH1_
  clear hH1_
  have hZ1 := Aside0.mk hZ1_
  clear hZ1_
  have hR1 := Aside0.mk hR1_
  clear hR1_
  have hH2 := Aside0.mk hH2_
  clear hH2_
  have hZ2 := Aside0.mk hZ2_
  clear hZ2_
  have hR2 := Aside0.mk hR2_
  clear hR2_
  have hH3 := Aside0.mk hH3_
  clear hH3_
  have hZ3 := Aside0.mk hZ3_
  clear hZ3_
  have hR3 := Aside0.mk hR3_
  clear hR3_
  have hu23 := Try.underlying23
  have hu25 := Try.underlying25
  have hu27 := Try.underlying27
  go_enter Try.func6, Try.ntmps6
  go_wp2_with fail
  refine (observatorylaw15_head.calls true _ rfl).mono ?_
  rintro e w0 ⟨rfl, hb0⟩
  obtain ⟨hc0, hf0⟩ := bcell hb0
  have z0_0 : w.heap.size < w0.heap.size := by have := hb0.size; (try simp at this); omega
  have z0_1 : w.heap.size + 1 < w0.heap.size := by have := hb0.size; (try simp at this); omega
  have z0_2 : w.heap.size + 1 + 1 < w0.heap.size := by have := hb0.size; (try simp at this); omega
  have z0_3 : w.heap.size + 1 + 1 + 1 < w0.heap.size := by have := hb0.size; (try simp at this); omega
  have z0_4 : w.heap.size + 1 + 1 + 1 + 1 < w0.heap.size := by have := hb0.size; (try simp at this); omega
  have z0_5 : w.heap.size + 1 + 1 + 1 + 1 + 1 < w0.heap.size := by have := hb0.size; (try simp at this); omega
  have z0_6 : w.heap.size + 1 + 1 + 1 + 1 + 1 + 1 < w0.heap.size := by have := hb0.size; (try simp at this); omega
  go_upto_region 3 with (fail)
  go_cut [21, 22, 23] (fun v21 v22 v23 wc => ∃ g1 g2 g3 : Nat, v21 = .pointer (some ⟨g1, 0, none⟩) ∧ v22 = .pointer (some ⟨g2, 0, none⟩) ∧ v23 = .pointer (some ⟨g3, 0, none⟩) ∧ Aside0 (wc.heap[g1]? = some (.cells #[.int .i64 a1_0, .int .i64 a1_1, .int .i64 a1_2, .int .i64 a1_3] 25 (0, 0))) ∧ Aside0 (wc.heap[g2]? = some (.cells #[.int .i64 a2_0, .int .i64 a2_1, .int .i64 a2_2, .int .i64 a2_3] 25 (0, 0))) ∧ Aside0 (wc.heap[g3]? = some (.cells #[.bool a6_0, .bool a6_1, .bool a6_2, .bool a6_3] 27 (0, 0))) ∧ Aside0 (w0.heap.size ≤ g1 ∧ w0.heap.size ≤ g2 ∧ w0.heap.size ≤ g3 ∧ g1 ≠ g2 ∧ g1 ≠ g3 ∧ g2 ≠ g3) ∧ Aside0 (Below w0.heap.size w0 wc))
  case first =>
    go_region
    all_goals
      go_wp2_with fail
      go_meet
      exact ⟨_, _, _, rfl, rfl, rfl, ⟨by first | exact (three_blk3 _ _ _ _).1 | exact (three_blk3 _ _ _ _).2.1 | exact (three_blk3 _ _ _ _).2.2⟩, ⟨by first | exact (three_blk3 _ _ _ _).1 | exact (three_blk3 _ _ _ _).2.1 | exact (three_blk3 _ _ _ _).2.2⟩, ⟨by first | exact (three_blk3 _ _ _ _).1 | exact (three_blk3 _ _ _ _).2.1 | exact (three_blk3 _ _ _ _).2.2⟩, ⟨by omega⟩, ⟨below_drew1 (below_alloc (below_alloc (below_alloc (Below.refl _ _) _) _) _)⟩⟩
  case rest =>
    obtain ⟨g1, g2, g3, rfl, rfl, rfl, B1, B2, B3, G, HBc⟩ := hcut
    obtain ⟨wk, rfl⟩ : ∃ wk, wk = wc := ⟨_, rfl⟩
    obtain ⟨hcc, hfc⟩ := bcell HBc.out
    have zg1 := blk_lt B1.out
    have zg2 := blk_lt B2.out
    have zg3 := blk_lt B3.out
    have zk_0 : w.heap.size < wk.heap.size := by have := HBc.out.size; omega
    have zk_1 : w.heap.size + 1 < wk.heap.size := by have := HBc.out.size; omega
    have zk_2 : w.heap.size + 1 + 1 < wk.heap.size := by have := HBc.out.size; omega
    have zk_3 : w.heap.size + 1 + 1 + 1 < wk.heap.size := by have := HBc.out.size; omega
    have zk_4 : w.heap.size + 1 + 1 + 1 + 1 < wk.heap.size := by have := HBc.out.size; omega
    have zk_5 : w.heap.size + 1 + 1 + 1 + 1 + 1 < wk.heap.size := by have := HBc.out.size; omega
    have zk_6 : w.heap.size + 1 + 1 + 1 + 1 + 1 + 1 < wk.heap.size := by have := HBc.out.size; omega
    · rw [hk]
      clear hk
      have b1_3 : wk.cell? ⟨g1, 3, none⟩ = some (.int .i64 a1_3) := (blk_cell B1.out 3).trans rfl
      have f1_3 : wk.frozen? ⟨g1, 3, none⟩ = false := blk_frozen B1.out 3
      have b2_3 : wk.cell? ⟨g2, 3, none⟩ = some (.int .i64 a2_3) := (blk_cell B2.out 3).trans rfl
      have f2_3 : wk.frozen? ⟨g2, 3, none⟩ = false := blk_frozen B2.out 3
      have b3_3 : wk.cell? ⟨g3, 3, none⟩ = some (.bool a6_3) := (blk_cell B3.out 3).trans rfl
      have f3_3 : wk.frozen? ⟨g3, 3, none⟩ = false := blk_frozen B3.out 3
      obtain ⟨G1, G2, G3, G4, G5, G6⟩ := G.out
      go_upto_region 4 with (fail)
      go_cut [] (fun wd => Aside0 (wd.heap[g1]? = some (.cells #[.int .i64 a1_0, .int .i64 a1_1, .int .i64 a1_2, .int .i64 a3_3] 25 (0, 0))) ∧ Aside0 (wd.heap[g2]? = some (.cells #[.int .i64 a2_0, .int .i64 a2_1, .int .i64 a2_2, .int .i64 a4_3] 25 (0, 0))) ∧ Aside0 (wd.heap[g3]? = some (.cells #[.bool a6_0, .bool a6_1, .bool a6_2, .bool a7_3] 27 (0, 0))) ∧ Aside0 (Below w0.heap.size w0 wd))
      case first =>
        go_region
        go_wp2_with fail
        go_meet
        exact ⟨⟨blk_drew (blk_far (blk_far (blk_put B1.out 3 _ rfl) G4 _) G5 _)⟩, ⟨blk_drew (blk_far (blk_put (blk_far B2.out (Ne.symm G4) _) 3 _ rfl) G6 _)⟩, ⟨blk_drew (blk_put (blk_far (blk_far B3.out (Ne.symm G5) _) (Ne.symm G6) _) 3 _ rfl)⟩, ⟨below_drew1 (below_set (below_set (below_set HBc.out G1) G2) G3)⟩⟩
      case rest =>
        obtain ⟨C1, C2, C3, HBd⟩ := hcut
        clear b1_3 b2_3 b3_3 f1_3 f2_3 f3_3 hcc hfc zg1 zg2 zg3 zk_0 zk_1 zk_2 zk_3 zk_4 zk_5 zk_6 B1 B2 B3 HBc G
        obtain ⟨hcd, hfd⟩ := bcell HBd.out
        have zd1 := blk_lt C1.out
        have zd2 := blk_lt C2.out
        have zd3 := blk_lt C3.out
        have zd_0 : w.heap.size < wc.heap.size := by have := HBd.out.size; omega
        have zd_1 : w.heap.size + 1 < wc.heap.size := by have := HBd.out.size; omega
        have zd_2 : w.heap.size + 1 + 1 < wc.heap.size := by have := HBd.out.size; omega
        have zd_3 : w.heap.size + 1 + 1 + 1 < wc.heap.size := by have := HBd.out.size; omega
        have zd_4 : w.heap.size + 1 + 1 + 1 + 1 < wc.heap.size := by have := HBd.out.size; omega
        have zd_5 : w.heap.size + 1 + 1 + 1 + 1 + 1 < wc.heap.size := by have := HBd.out.size; omega
        have zd_6 : w.heap.size + 1 + 1 + 1 + 1 + 1 + 1 < wc.heap.size := by have := HBd.out.size; omega
        have c1_0 : wc.cell? ⟨g1, 0, none⟩ = some (.int .i64 a1_0) := (blk_cell C1.out 0).trans rfl
        have c1_1 : wc.cell? ⟨g1, 1, none⟩ = some (.int .i64 a1_1) := (blk_cell C1.out 1).trans rfl
        have c1_2 : wc.cell? ⟨g1, 2, none⟩ = some (.int .i64 a1_2) := (blk_cell C1.out 2).trans rfl
        have c1_3 : wc.cell? ⟨g1, 3, none⟩ = some (.int .i64 a3_3) := (blk_cell C1.out 3).trans rfl
        have c2_0 : wc.cell? ⟨g2, 0, none⟩ = some (.int .i64 a2_0) := (blk_cell C2.out 0).trans rfl
        have c2_1 : wc.cell? ⟨g2, 1, none⟩ = some (.int .i64 a2_1) := (blk_cell C2.out 1).trans rfl
        have c2_2 : wc.cell? ⟨g2, 2, none⟩ = some (.int .i64 a2_2) := (blk_cell C2.out 2).trans rfl
        have c2_3 : wc.cell? ⟨g2, 3, none⟩ = some (.int .i64 a4_3) := (blk_cell C2.out 3).trans rfl
        have c3_0 : wc.cell? ⟨g3, 0, none⟩ = some (.bool a6_0) := (blk_cell C3.out 0).trans rfl
        have c3_1 : wc.cell? ⟨g3, 1, none⟩ = some (.bool a6_1) := (blk_cell C3.out 1).trans rfl
        have c3_2 : wc.cell? ⟨g3, 2, none⟩ = some (.bool a6_2) := (blk_cell C3.out 2).trans rfl
        have c3_3 : wc.cell? ⟨g3, 3, none⟩ = some (.bool a7_3) := (blk_cell C3.out 3).trans rfl
        go_wp2_with fail
        refine (detector_Expose.calls a0_0 a0_1 a0_2 a0_3 a0_4 a1_0 a1_1 a1_2 a1_3 a2_0 a2_1 a2_2 a2_3 a5 a6_0 a6_1 a6_2 a6_3 e0 e1 e2 e3 0 _ hE.out).mono ?_
        rintro e w1 ⟨rfl, hb1⟩
        obtain ⟨hc1, hf1⟩ := bcell hb1
        have z1_0 : w.heap.size < w1.heap.size := by have := hb1.size; (try simp at this); omega
        have z1_1 : w.heap.size + 1 < w1.heap.size := by have := hb1.size; (try simp at this); omega
        have z1_2 : w.heap.size + 1 + 1 < w1.heap.size := by have := hb1.size; (try simp at this); omega
        have z1_3 : w.heap.size + 1 + 1 + 1 < w1.heap.size := by have := hb1.size; (try simp at this); omega
        have z1_4 : w.heap.size + 1 + 1 + 1 + 1 < w1.heap.size := by have := hb1.size; (try simp at this); omega
        have z1_5 : w.heap.size + 1 + 1 + 1 + 1 + 1 < w1.heap.size := by have := hb1.size; (try simp at this); omega
        have z1_6 : w.heap.size + 1 + 1 + 1 + 1 + 1 + 1 < w1.heap.size := by have := hb1.size; (try simp at this); omega
        have z1_7 : g1 < w1.heap.size := by have := hb1.size; (try simp at this); omega
        have z1_8 : g2 < w1.heap.size := by have := hb1.size; (try simp at this); omega
        have z1_9 : g3 < w1.heap.size := by have := hb1.size; (try simp at this); omega
        go_wp2_with fail
        refine (detector_Expose.calls a0_0 a0_1 a0_2 a0_3 a0_4 a3_0 a3_1 a3_2 a3_3 a4_0 a4_1 a4_2 a4_3 a5 a7_0 a7_1 a7_2 a7_3 f0 f1 f2 f3 0 _ hF.out).mono ?_
        rintro e w2 ⟨rfl, hb2⟩
        obtain ⟨hc2, hf2⟩ := bcell hb2
        have z2_0 : w.heap.size < w2.heap.size := by have := hb2.size; (try simp at this); omega
        have z2_1 : w.heap.size + 1 < w2.heap.size := by have := hb2.size; (try simp at this); omega
        have z2_2 : w.heap.size + 1 + 1 < w2.heap.size := by have := hb2.size; (try simp at this); omega
        have z2_3 : w.heap.size + 1 + 1 + 1 < w2.heap.size := by have := hb2.size; (try simp at this); omega
        have z2_4 : w.heap.size + 1 + 1 + 1 + 1 < w2.heap.size := by have := hb2.size; (try simp at this); omega
        have z2_5 : w.heap.size + 1 + 1 + 1 + 1 + 1 < w2.heap.size := by have := hb2.size; (try simp at this); omega
        have z2_6 : w.heap.size + 1 + 1 + 1 + 1 + 1 + 1 < w2.heap.size := by have := hb2.size; (try simp at this); omega
        have z2_7 : g1 < w2.heap.size := by have := hb2.size; (try simp at this); omega
        have z2_8 : g2 < w2.heap.size := by have := hb2.size; (try simp at this); omega
        have z2_9 : g3 < w2.heap.size := by have := hb2.size; (try simp at this); omega
        have z2_10 : w1.heap.size < w2.heap.size := by have := hb2.size; (try simp at this); omega
        go_wp2_with fail
        refine (detector_Expose.calls a0_0 a0_1 a0_2 a0_3 a0_4 a1_0 a1_1 a1_2 a3_3 a2_0 a2_1 a2_2 a4_3 a5 a6_0 a6_1 a6_2 a7_3 e0 e1 e2 f3 0 _ hH3.out).mono ?_
        rintro e w3 ⟨rfl, hb3⟩
        obtain ⟨hc3, hf3⟩ := bcell hb3
        have z3_0 : w.heap.size < w3.heap.size := by have := hb3.size; (try simp at this); omega
        have z3_1 : w.heap.size + 1 < w3.heap.size := by have := hb3.size; (try simp at this); omega
        have z3_2 : w.heap.size + 1 + 1 < w3.heap.size := by have := hb3.size; (try simp at this); omega
        have z3_3 : w.heap.size + 1 + 1 + 1 < w3.heap.size := by have := hb3.size; (try simp at this); omega
        have z3_4 : w.heap.size + 1 + 1 + 1 + 1 < w3.heap.size := by have := hb3.size; (try simp at this); omega
        have z3_5 : w.heap.size + 1 + 1 + 1 + 1 + 1 < w3.heap.size := by have := hb3.size; (try simp at this); omega
        have z3_6 : w.heap.size + 1 + 1 + 1 + 1 + 1 + 1 < w3.heap.size := by have := hb3.size; (try simp at this); omega
        have z3_7 : g1 < w3.heap.size := by have := hb3.size; (try simp at this); omega
        have z3_8 : g2 < w3.heap.size := by have := hb3.size; (try simp at this); omega
        have z3_9 : g3 < w3.heap.size := by have := hb3.size; (try simp at this); omega
        have z3_10 : w1.heap.size < w3.heap.size := by have := hb3.size; (try simp at this); omega
        have z3_11 : w2.heap.size < w3.heap.size := by have := hb3.size; (try simp at this); omega
        go_wp2_with fail
        refine (detector_Ghost.calls a0_0 a0_1 a0_2 a0_3 a0_4 e0 e1 e2 e3 x0 x1 x2 x3 0 _ hX.out).mono ?_
        rintro e w4 ⟨rfl, hb4⟩
        obtain ⟨hc4, hf4⟩ := bcell hb4
        have z4_0 : w.heap.size < w4.heap.size := by have := hb4.size; (try simp at this); omega
        have z4_1 : w.heap.size + 1 < w4.heap.size := by have := hb4.size; (try simp at this); omega
        have z4_2 : w.heap.size + 1 + 1 < w4.heap.size := by have := hb4.size; (try simp at this); omega
        have z4_3 : w.heap.size + 1 + 1 + 1 < w4.heap.size := by have := hb4.size; (try simp at this); omega
        have z4_4 : w.heap.size + 1 + 1 + 1 + 1 < w4.heap.size := by have := hb4.size; (try simp at this); omega
        have z4_5 : w.heap.size + 1 + 1 + 1 + 1 + 1 < w4.heap.size := by have := hb4.size; (try simp at this); omega
        have z4_6 : w.heap.size + 1 + 1 + 1 + 1 + 1 + 1 < w4.heap.size := by have := hb4.size; (try simp at this); omega
        have z4_7 : g1 < w4.heap.size := by have := hb4.size; (try simp at this); omega
        have z4_8 : g2 < w4.heap.size := by have := hb4.size; (try simp at this); omega
        have z4_9 : g3 < w4.heap.size := by have := hb4.size; (try simp at this); omega
        have z4_10 : w1.heap.size < w4.heap.size := by have := hb4.size; (try simp at this); omega
        have z4_11 : w2.heap.size < w4.heap.size := by have := hb4.size; (try simp at this); omega
        have z4_12 : w3.heap.size < w4.heap.size := by have := hb4.size; (try simp at this); omega
        go_wp2_with fail
        refine (detector_Ghost.calls a0_0 a0_1 a0_2 a0_3 a0_4 f0 f1 f2 f3 y0 y1 y2 y3 0 _ hY.out).mono ?_
        rintro e w5 ⟨rfl, hb5⟩
        obtain ⟨hc5, hf5⟩ := bcell hb5
        have z5_0 : w.heap.size < w5.heap.size := by have := hb5.size; (try simp at this); omega
        have z5_1 : w.heap.size + 1 < w5.heap.size := by have := hb5.size; (try simp at this); omega
        have z5_2 : w.heap.size + 1 + 1 < w5.heap.size := by have := hb5.size; (try simp at this); omega
        have z5_3 : w.heap.size + 1 + 1 + 1 < w5.heap.size := by have := hb5.size; (try simp at this); omega
        have z5_4 : w.heap.size + 1 + 1 + 1 + 1 < w5.heap.size := by have := hb5.size; (try simp at this); omega
        have z5_5 : w.heap.size + 1 + 1 + 1 + 1 + 1 < w5.heap.size := by have := hb5.size; (try simp at this); omega
        have z5_6 : w.heap.size + 1 + 1 + 1 + 1 + 1 + 1 < w5.heap.size := by have := hb5.size; (try simp at this); omega
        have z5_7 : g1 < w5.heap.size := by have := hb5.size; (try simp at this); omega
        have z5_8 : g2 < w5.heap.size := by have := hb5.size; (try simp at this); omega
        have z5_9 : g3 < w5.heap.size := by have := hb5.size; (try simp at this); omega
        have z5_10 : w1.heap.size < w5.heap.size := by have := hb5.size; (try simp at this); omega
        have z5_11 : w2.heap.size < w5.heap.size := by have := hb5.size; (try simp at this); omega
        have z5_12 : w3.heap.size < w5.heap.size := by have := hb5.size; (try simp at this); omega
        have z5_13 : w4.heap.size < w5.heap.size := by have := hb5.size; (try simp at this); omega
        go_wp2_with fail
        refine (detector_Ghost.calls a0_0 a0_1 a0_2 a0_3 a0_4 e0 e1 e2 f3 x0 x1 x2 y3 0 _ hZ3.out).mono ?_
        rintro e w6 ⟨rfl, hb6⟩
        obtain ⟨hc6, hf6⟩ := bcell hb6
        have z6_0 : w.heap.size < w6.heap.size := by have := hb6.size; (try simp at this); omega
        have z6_1 : w.heap.size + 1 < w6.heap.size := by have := hb6.size; (try simp at this); omega
        have z6_2 : w.heap.size + 1 + 1 < w6.heap.size := by have := hb6.size; (try simp at this); omega
        have z6_3 : w.heap.size + 1 + 1 + 1 < w6.heap.size := by have := hb6.size; (try simp at this); omega
        have z6_4 : w.heap.size + 1 + 1 + 1 + 1 < w6.heap.size := by have := hb6.size; (try simp at this); omega
        have z6_5 : w.heap.size + 1 + 1 + 1 + 1 + 1 < w6.heap.size := by have := hb6.size; (try simp at this); omega
        have z6_6 : w.heap.size + 1 + 1 + 1 + 1 + 1 + 1 < w6.heap.size := by have := hb6.size; (try simp at this); omega
        have z6_7 : g1 < w6.heap.size := by have := hb6.size; (try simp at this); omega
        have z6_8 : g2 < w6.heap.size := by have := hb6.size; (try simp at this); omega
        have z6_9 : g3 < w6.heap.size := by have := hb6.size; (try simp at this); omega
        have z6_10 : w1.heap.size < w6.heap.size := by have := hb6.size; (try simp at this); omega
        have z6_11 : w2.heap.size < w6.heap.size := by have := hb6.size; (try simp at this); omega
        have z6_12 : w3.heap.size < w6.heap.size := by have := hb6.size; (try simp at this); omega
        have z6_13 : w4.heap.size < w6.heap.size := by have := hb6.size; (try simp at this); omega
        have z6_14 : w5.heap.size < w6.heap.size := by have := hb6.size; (try simp at this); omega
        go_wp2_with fail
        refine (detector_Reduce.calls a0_0 a0_1 a0_2 a0_3 a0_4 e0 e1 e2 e3 a6_0 a6_1 a6_2 a6_3 p0 p1 p2 p3 s0 s1 s2 s3 0 _ hP.out).mono ?_
        rintro e w7 ⟨rfl, hb7⟩
        obtain ⟨hc7, hf7⟩ := bcell hb7
        have z7_0 : w.heap.size < w7.heap.size := by have := hb7.size; (try simp at this); omega
        have z7_1 : w.heap.size + 1 < w7.heap.size := by have := hb7.size; (try simp at this); omega
        have z7_2 : w.heap.size + 1 + 1 < w7.heap.size := by have := hb7.size; (try simp at this); omega
        have z7_3 : w.heap.size + 1 + 1 + 1 < w7.heap.size := by have := hb7.size; (try simp at this); omega
        have z7_4 : w.heap.size + 1 + 1 + 1 + 1 < w7.heap.size := by have := hb7.size; (try simp at this); omega
        have z7_5 : w.heap.size + 1 + 1 + 1 + 1 + 1 < w7.heap.size := by have := hb7.size; (try simp at this); omega
        have z7_6 : w.heap.size + 1 + 1 + 1 + 1 + 1 + 1 < w7.heap.size := by have := hb7.size; (try simp at this); omega
        have z7_7 : g1 < w7.heap.size := by have := hb7.size; (try simp at this); omega
        have z7_8 : g2 < w7.heap.size := by have := hb7.size; (try simp at this); omega
        have z7_9 : g3 < w7.heap.size := by have := hb7.size; (try simp at this); omega
        have z7_10 : w1.heap.size < w7.heap.size := by have := hb7.size; (try simp at this); omega
        have z7_11 : w2.heap.size < w7.heap.size := by have := hb7.size; (try simp at this); omega
        have z7_12 : w3.heap.size < w7.heap.size := by have := hb7.size; (try simp at this); omega
        have z7_13 : w4.heap.size < w7.heap.size := by have := hb7.size; (try simp at this); omega
        have z7_14 : w5.heap.size < w7.heap.size := by have := hb7.size; (try simp at this); omega
        have z7_15 : w6.heap.size < w7.heap.size := by have := hb7.size; (try simp at this); omega
        have y7_0 : w.heap.size < w7.heap.size + 1 + 1 := by omega
        have y7_1 : w.heap.size + 1 < w7.heap.size + 1 + 1 := by omega
        have y7_2 : w.heap.size + 1 + 1 < w7.heap.size + 1 + 1 := by omega
        have y7_3 : w.heap.size + 1 + 1 + 1 < w7.heap.size + 1 + 1 := by omega
        have y7_4 : w.heap.size + 1 + 1 + 1 + 1 < w7.heap.size + 1 + 1 := by omega
        have y7_5 : w.heap.size + 1 + 1 + 1 + 1 + 1 < w7.heap.size + 1 + 1 := by omega
        have y7_6 : w.heap.size + 1 + 1 + 1 + 1 + 1 + 1 < w7.heap.size + 1 + 1 := by omega
        have y7_7 : g1 < w7.heap.size + 1 + 1 := by omega
        have y7_8 : g2 < w7.heap.size + 1 + 1 := by omega
        have y7_9 : g3 < w7.heap.size + 1 + 1 := by omega
        have y7_10 : w1.heap.size < w7.heap.size + 1 + 1 := by omega
        have y7_11 : w2.heap.size < w7.heap.size + 1 + 1 := by omega
        have y7_12 : w3.heap.size < w7.heap.size + 1 + 1 := by omega
        have y7_13 : w4.heap.size < w7.heap.size + 1 + 1 := by omega
        have y7_14 : w5.heap.size < w7.heap.size + 1 + 1 := by omega
        have y7_15 : w6.heap.size < w7.heap.size + 1 + 1 := by omega
        have y7_16 : w7.heap.size < w7.heap.size + 1 + 1 := by omega
        have y7_17 : w7.heap.size + 1 < w7.heap.size + 1 + 1 := by omega
        go_wp2_with fail
        refine (detector_Reduce.calls a0_0 a0_1 a0_2 a0_3 a0_4 f0 f1 f2 f3 a7_0 a7_1 a7_2 a7_3 q0 q1 q2 q3 t0 t1 t2 t3 0 _ hQ.out).mono ?_
        rintro e w8 ⟨rfl, hb8⟩
        obtain ⟨hc8, hf8⟩ := bcell hb8
        have z8_0 : w.heap.size < w8.heap.size := by have := hb8.size; (try simp at this); omega
        have z8_1 : w.heap.size + 1 < w8.heap.size := by have := hb8.size; (try simp at this); omega
        have z8_2 : w.heap.size + 1 + 1 < w8.heap.size := by have := hb8.size; (try simp at this); omega
        have z8_3 : w.heap.size + 1 + 1 + 1 < w8.heap.size := by have := hb8.size; (try simp at this); omega
        have z8_4 : w.heap.size + 1 + 1 + 1 + 1 < w8.heap.size := by have := hb8.size; (try simp at this); omega
        have z8_5 : w.heap.size + 1 + 1 + 1 + 1 + 1 < w8.heap.size := by have := hb8.size; (try simp at this); omega
        have z8_6 : w.heap.size + 1 + 1 + 1 + 1 + 1 + 1 < w8.heap.size := by have := hb8.size; (try simp at this); omega
        have z8_7 : g1 < w8.heap.size := by have := hb8.size; (try simp at this); omega
        have z8_8 : g2 < w8.heap.size := by have := hb8.size; (try simp at this); omega
        have z8_9 : g3 < w8.heap.size := by have := hb8.size; (try simp at this); omega
        have z8_10 : w1.heap.size < w8.heap.size := by have := hb8.size; (try simp at this); omega
        have z8_11 : w2.heap.size < w8.heap.size := by have := hb8.size; (try simp at this); omega
        have z8_12 : w3.heap.size < w8.heap.size := by have := hb8.size; (try simp at this); omega
        have z8_13 : w4.heap.size < w8.heap.size := by have := hb8.size; (try simp at this); omega
        have z8_14 : w5.heap.size < w8.heap.size := by have := hb8.size; (try simp at this); omega
        have z8_15 : w6.heap.size < w8.heap.size := by have := hb8.size; (try simp at this); omega
        have z8_16 : w7.heap.size < w8.heap.size := by have := hb8.size; (try simp at this); omega
        have z8_17 : w7.heap.size + 1 < w8.heap.size := by have := hb8.size; (try simp at this); omega
        have y8_0 : w.heap.size < w8.heap.size + 1 + 1 := by omega
        have y8_1 : w.heap.size + 1 < w8.heap.size + 1 + 1 := by omega
        have y8_2 : w.heap.size + 1 + 1 < w8.heap.size + 1 + 1 := by omega
        have y8_3 : w.heap.size + 1 + 1 + 1 < w8.heap.size + 1 + 1 := by omega
        have y8_4 : w.heap.size + 1 + 1 + 1 + 1 < w8.heap.size + 1 + 1 := by omega
        have y8_5 : w.heap.size + 1 + 1 + 1 + 1 + 1 < w8.heap.size + 1 + 1 := by omega
        have y8_6 : w.heap.size + 1 + 1 + 1 + 1 + 1 + 1 < w8.heap.size + 1 + 1 := by omega
        have y8_7 : g1 < w8.heap.size + 1 + 1 := by omega
        have y8_8 : g2 < w8.heap.size + 1 + 1 := by omega
        have y8_9 : g3 < w8.heap.size + 1 + 1 := by omega
        have y8_10 : w1.heap.size < w8.heap.size + 1 + 1 := by omega
        have y8_11 : w2.heap.size < w8.heap.size + 1 + 1 := by omega
        have y8_12 : w3.heap.size < w8.heap.size + 1 + 1 := by omega
        have y8_13 : w4.heap.size < w8.heap.size + 1 + 1 := by omega
        have y8_14 : w5.heap.size < w8.heap.size + 1 + 1 := by omega
        have y8_15 : w6.heap.size < w8.heap.size + 1 + 1 := by omega
        have y8_16 : w7.heap.size < w8.heap.size + 1 + 1 := by omega
        have y8_17 : w7.heap.size + 1 < w8.heap.size + 1 + 1 := by omega
        have y8_18 : w8.heap.size < w8.heap.size + 1 + 1 := by omega
        have y8_19 : w8.heap.size + 1 < w8.heap.size + 1 + 1 := by omega
        go_wp2_with fail
        refine (detector_Reduce.calls a0_0 a0_1 a0_2 a0_3 a0_4 e0 e1 e2 f3 a6_0 a6_1 a6_2 a7_3 p0 p1 p2 q3 s0 s1 s2 t3 0 _ hR3.out).mono ?_
        rintro e w9 ⟨rfl, hb9⟩
        obtain ⟨hc9, hf9⟩ := bcell hb9
        have z9_0 : w.heap.size < w9.heap.size := by have := hb9.size; (try simp at this); omega
        have z9_1 : w.heap.size + 1 < w9.heap.size := by have := hb9.size; (try simp at this); omega
        have z9_2 : w.heap.size + 1 + 1 < w9.heap.size := by have := hb9.size; (try simp at this); omega
        have z9_3 : w.heap.size + 1 + 1 + 1 < w9.heap.size := by have := hb9.size; (try simp at this); omega
        have z9_4 : w.heap.size + 1 + 1 + 1 + 1 < w9.heap.size := by have := hb9.size; (try simp at this); omega
        have z9_5 : w.heap.size + 1 + 1 + 1 + 1 + 1 < w9.heap.size := by have := hb9.size; (try simp at this); omega
        have z9_6 : w.heap.size + 1 + 1 + 1 + 1 + 1 + 1 < w9.heap.size := by have := hb9.size; (try simp at this); omega
        have z9_7 : g1 < w9.heap.size := by have := hb9.size; (try simp at this); omega
        have z9_8 : g2 < w9.heap.size := by have := hb9.size; (try simp at this); omega
        have z9_9 : g3 < w9.heap.size := by have := hb9.size; (try simp at this); omega
        have z9_10 : w1.heap.size < w9.heap.size := by have := hb9.size; (try simp at this); omega
        have z9_11 : w2.heap.size < w9.heap.size := by have := hb9.size; (try simp at this); omega
        have z9_12 : w3.heap.size < w9.heap.size := by have := hb9.size; (try simp at this); omega
        have z9_13 : w4.heap.size < w9.heap.size := by have := hb9.size; (try simp at this); omega
        have z9_14 : w5.heap.size < w9.heap.size := by have := hb9.size; (try simp at this); omega
        have z9_15 : w6.heap.size < w9.heap.size := by have := hb9.size; (try simp at this); omega
        have z9_16 : w7.heap.size < w9.heap.size := by have := hb9.size; (try simp at this); omega
        have z9_17 : w7.heap.size + 1 < w9.heap.size := by have := hb9.size; (try simp at this); omega
        have z9_18 : w8.heap.size < w9.heap.size := by have := hb9.size; (try simp at this); omega
        have z9_19 : w8.heap.size + 1 < w9.heap.size := by have := hb9.size; (try simp at this); omega
        have y9_0 : w.heap.size < w9.heap.size + 1 + 1 := by omega
        have y9_1 : w.heap.size + 1 < w9.heap.size + 1 + 1 := by omega
        have y9_2 : w.heap.size + 1 + 1 < w9.heap.size + 1 + 1 := by omega
        have y9_3 : w.heap.size + 1 + 1 + 1 < w9.heap.size + 1 + 1 := by omega
        have y9_4 : w.heap.size + 1 + 1 + 1 + 1 < w9.heap.size + 1 + 1 := by omega
        have y9_5 : w.heap.size + 1 + 1 + 1 + 1 + 1 < w9.heap.size + 1 + 1 := by omega
        have y9_6 : w.heap.size + 1 + 1 + 1 + 1 + 1 + 1 < w9.heap.size + 1 + 1 := by omega
        have y9_7 : g1 < w9.heap.size + 1 + 1 := by omega
        have y9_8 : g2 < w9.heap.size + 1 + 1 := by omega
        have y9_9 : g3 < w9.heap.size + 1 + 1 := by omega
        have y9_10 : w1.heap.size < w9.heap.size + 1 + 1 := by omega
        have y9_11 : w2.heap.size < w9.heap.size + 1 + 1 := by omega
        have y9_12 : w3.heap.size < w9.heap.size + 1 + 1 := by omega
        have y9_13 : w4.heap.size < w9.heap.size + 1 + 1 := by omega
        have y9_14 : w5.heap.size < w9.heap.size + 1 + 1 := by omega
        have y9_15 : w6.heap.size < w9.heap.size + 1 + 1 := by omega
        have y9_16 : w7.heap.size < w9.heap.size + 1 + 1 := by omega
        have y9_17 : w7.heap.size + 1 < w9.heap.size + 1 + 1 := by omega
        have y9_18 : w8.heap.size < w9.heap.size + 1 + 1 := by omega
        have y9_19 : w8.heap.size + 1 < w9.heap.size + 1 + 1 := by omega
        have y9_20 : w9.heap.size < w9.heap.size + 1 + 1 := by omega
        have y9_21 : w9.heap.size + 1 < w9.heap.size + 1 + 1 := by omega
        go_upto_region 18 with (fail)
        have D1 := Aside0.mk (show ((w9.alloc (.cells #[.int .i64 p0, .int .i64 p1, .int .i64 p2, .int .i64 q3] 25)).alloc (.cells #[.bool s0, .bool s1, .bool s2, .bool t3] 27)).heap[w1.heap.size]? = some (.cells #[.int .i64 e0, .int .i64 e1, .int .i64 e2, .int .i64 e3] 25 (0, 0)) from (blk_alloc (blk_alloc (blk_below (blk_alloc (blk_alloc (blk_below (blk_alloc (blk_alloc (blk_below (blk_alloc (blk_below (blk_alloc (blk_below (blk_alloc (blk_below (blk_alloc (blk_below (blk_alloc (blk_below (blk_new w1 (.cells #[.int .i64 e0, .int .i64 e1, .int .i64 e2, .int .i64 e3] 25)) hb2) (.cells #[.int .i64 f0, .int .i64 f1, .int .i64 f2, .int .i64 f3] 25)) hb3) (.cells #[.int .i64 e0, .int .i64 e1, .int .i64 e2, .int .i64 f3] 25)) hb4) (.cells #[.int .i64 x0, .int .i64 x1, .int .i64 x2, .int .i64 x3] 25)) hb5) (.cells #[.int .i64 y0, .int .i64 y1, .int .i64 y2, .int .i64 y3] 25)) hb6) (.cells #[.int .i64 x0, .int .i64 x1, .int .i64 x2, .int .i64 y3] 25)) hb7) (.cells #[.int .i64 p0, .int .i64 p1, .int .i64 p2, .int .i64 p3] 25)) (.cells #[.bool s0, .bool s1, .bool s2, .bool s3] 27)) hb8) (.cells #[.int .i64 q0, .int .i64 q1, .int .i64 q2, .int .i64 q3] 25)) (.cells #[.bool t0, .bool t1, .bool t2, .bool t3] 27)) hb9) (.cells #[.int .i64 p0, .int .i64 p1, .int .i64 p2, .int .i64 q3] 25)) (.cells #[.bool s0, .bool s1, .bool s2, .bool t3] 27)))
        have D2 := Aside0.mk (show ((w9.alloc (.cells #[.int .i64 p0, .int .i64 p1, .int .i64 p2, .int .i64 q3] 25)).alloc (.cells #[.bool s0, .bool s1, .bool s2, .bool t3] 27)).heap[w2.heap.size]? = some (.cells #[.int .i64 f0, .int .i64 f1, .int .i64 f2, .int .i64 f3] 25 (0, 0)) from (blk_alloc (blk_alloc (blk_below (blk_alloc (blk_alloc (blk_below (blk_alloc (blk_alloc (blk_below (blk_alloc (blk_below (blk_alloc (blk_below (blk_alloc (blk_below (blk_alloc (blk_below (blk_new w2 (.cells #[.int .i64 f0, .int .i64 f1, .int .i64 f2, .int .i64 f3] 25)) hb3) (.cells #[.int .i64 e0, .int .i64 e1, .int .i64 e2, .int .i64 f3] 25)) hb4) (.cells #[.int .i64 x0, .int .i64 x1, .int .i64 x2, .int .i64 x3] 25)) hb5) (.cells #[.int .i64 y0, .int .i64 y1, .int .i64 y2, .int .i64 y3] 25)) hb6) (.cells #[.int .i64 x0, .int .i64 x1, .int .i64 x2, .int .i64 y3] 25)) hb7) (.cells #[.int .i64 p0, .int .i64 p1, .int .i64 p2, .int .i64 p3] 25)) (.cells #[.bool s0, .bool s1, .bool s2, .bool s3] 27)) hb8) (.cells #[.int .i64 q0, .int .i64 q1, .int .i64 q2, .int .i64 q3] 25)) (.cells #[.bool t0, .bool t1, .bool t2, .bool t3] 27)) hb9) (.cells #[.int .i64 p0, .int .i64 p1, .int .i64 p2, .int .i64 q3] 25)) (.cells #[.bool s0, .bool s1, .bool s2, .bool t3] 27)))
        have D3 := Aside0.mk (show ((w9.alloc (.cells #[.int .i64 p0, .int .i64 p1, .int .i64 p2, .int .i64 q3] 25)).alloc (.cells #[.bool s0, .bool s1, .bool s2, .bool t3] 27)).heap[w3.heap.size]? = some (.cells #[.int .i64 e0, .int .i64 e1, .int .i64 e2, .int .i64 f3] 25 (0, 0)) from (blk_alloc (blk_alloc (blk_below (blk_alloc (blk_alloc (blk_below (blk_alloc (blk_alloc (blk_below (blk_alloc (blk_below (blk_alloc (blk_below (blk_alloc (blk_below (blk_new w3 (.cells #[.int .i64 e0, .int .i64 e1, .int .i64 e2, .int .i64 f3] 25)) hb4) (.cells #[.int .i64 x0, .int .i64 x1, .int .i64 x2, .int .i64 x3] 25)) hb5) (.cells #[.int .i64 y0, .int .i64 y1, .int .i64 y2, .int .i64 y3] 25)) hb6) (.cells #[.int .i64 x0, .int .i64 x1, .int .i64 x2, .int .i64 y3] 25)) hb7) (.cells #[.int .i64 p0, .int .i64 p1, .int .i64 p2, .int .i64 p3] 25)) (.cells #[.bool s0, .bool s1, .bool s2, .bool s3] 27)) hb8) (.cells #[.int .i64 q0, .int .i64 q1, .int .i64 q2, .int .i64 q3] 25)) (.cells #[.bool t0, .bool t1, .bool t2, .bool t3] 27)) hb9) (.cells #[.int .i64 p0, .int .i64 p1, .int .i64 p2, .int .i64 q3] 25)) (.cells #[.bool s0, .bool s1, .bool s2, .bool t3] 27)))
        have D4 := Aside0.mk (show ((w9.alloc (.cells #[.int .i64 p0, .int .i64 p1, .int .i64 p2, .int .i64 q3] 25)).alloc (.cells #[.bool s0, .bool s1, .bool s2, .bool t3] 27)).heap[w4.heap.size]? = some (.cells #[.int .i64 x0, .int .i64 x1, .int .i64 x2, .int .i64 x3] 25 (0, 0)) from (blk_alloc (blk_alloc (blk_below (blk_alloc (blk_alloc (blk_below (blk_alloc (blk_alloc (blk_below (blk_alloc (blk_below (blk_alloc (blk_below (blk_new w4 (.cells #[.int .i64 x0, .int .i64 x1, .int .i64 x2, .int .i64 x3] 25)) hb5) (.cells #[.int .i64 y0, .int .i64 y1, .int .i64 y2, .int .i64 y3] 25)) hb6) (.cells #[.int .i64 x0, .int .i64 x1, .int .i64 x2, .int .i64 y3] 25)) hb7) (.cells #[.int .i64 p0, .int .i64 p1, .int .i64 p2, .int .i64 p3] 25)) (.cells #[.bool s0, .bool s1, .bool s2, .bool s3] 27)) hb8) (.cells #[.int .i64 q0, .int .i64 q1, .int .i64 q2, .int .i64 q3] 25)) (.cells #[.bool t0, .bool t1, .bool t2, .bool t3] 27)) hb9) (.cells #[.int .i64 p0, .int .i64 p1, .int .i64 p2, .int .i64 q3] 25)) (.cells #[.bool s0, .bool s1, .bool s2, .bool t3] 27)))
        have D5 := Aside0.mk (show ((w9.alloc (.cells #[.int .i64 p0, .int .i64 p1, .int .i64 p2, .int .i64 q3] 25)).alloc (.cells #[.bool s0, .bool s1, .bool s2, .bool t3] 27)).heap[w5.heap.size]? = some (.cells #[.int .i64 y0, .int .i64 y1, .int .i64 y2, .int .i64 y3] 25 (0, 0)) from (blk_alloc (blk_alloc (blk_below (blk_alloc (blk_alloc (blk_below (blk_alloc (blk_alloc (blk_below (blk_alloc (blk_below (blk_new w5 (.cells #[.int .i64 y0, .int .i64 y1, .int .i64 y2, .int .i64 y3] 25)) hb6) (.cells #[.int .i64 x0, .int .i64 x1, .int .i64 x2, .int .i64 y3] 25)) hb7) (.cells #[.int .i64 p0, .int .i64 p1, .int .i64 p2, .int .i64 p3] 25)) (.cells #[.bool s0, .bool s1, .bool s2, .bool s3] 27)) hb8) (.cells #[.int .i64 q0, .int .i64 q1, .int .i64 q2, .int .i64 q3] 25)) (.cells #[.bool t0, .bool t1, .bool t2, .bool t3] 27)) hb9) (.cells #[.int .i64 p0, .int .i64 p1, .int .i64 p2, .int .i64 q3] 25)) (.cells #[.bool s0, .bool s1, .bool s2, .bool t3] 27)))
        have D6 := Aside0.mk (show ((w9.alloc (.cells #[.int .i64 p0, .int .i64 p1, .int .i64 p2, .int .i64 q3] 25)).alloc (.cells #[.bool s0, .bool s1, .bool s2, .bool t3] 27)).heap[w6.heap.size]? = some (.cells #[.int .i64 x0, .int .i64 x1, .int .i64 x2, .int .i64 y3] 25 (0, 0)) from (blk_alloc (blk_alloc (blk_below (blk_alloc (blk_alloc (blk_below (blk_alloc (blk_alloc (blk_below (blk_new w6 (.cells #[.int .i64 x0, .int .i64 x1, .int .i64 x2, .int .i64 y3] 25)) hb7) (.cells #[.int .i64 p0, .int .i64 p1, .int .i64 p2, .int .i64 p3] 25)) (.cells #[.bool s0, .bool s1, .bool s2, .bool s3] 27)) hb8) (.cells #[.int .i64 q0, .int .i64 q1, .int .i64 q2, .int .i64 q3] 25)) (.cells #[.bool t0, .bool t1, .bool t2, .bool t3] 27)) hb9) (.cells #[.int .i64 p0, .int .i64 p1, .int .i64 p2, .int .i64 q3] 25)) (.cells #[.bool s0, .bool s1, .bool s2, .bool t3] 27)))
        have D7 := Aside0.mk (show ((w9.alloc (.cells #[.int .i64 p0, .int .i64 p1, .int .i64 p2, .int .i64 q3] 25)).alloc (.cells #[.bool s0, .bool s1, .bool s2, .bool t3] 27)).heap[w7.heap.size]? = some (.cells #[.int .i64 p0, .int .i64 p1, .int .i64 p2, .int .i64 p3] 25 (0, 0)) from (blk_alloc (blk_alloc (blk_below (blk_alloc (blk_alloc (blk_below (blk_alloc (blk_new w7 (.cells #[.int .i64 p0, .int .i64 p1, .int .i64 p2, .int .i64 p3] 25)) (.cells #[.bool s0, .bool s1, .bool s2, .bool s3] 27)) hb8) (.cells #[.int .i64 q0, .int .i64 q1, .int .i64 q2, .int .i64 q3] 25)) (.cells #[.bool t0, .bool t1, .bool t2, .bool t3] 27)) hb9) (.cells #[.int .i64 p0, .int .i64 p1, .int .i64 p2, .int .i64 q3] 25)) (.cells #[.bool s0, .bool s1, .bool s2, .bool t3] 27)))
        have F7 := Aside0.mk (show ((w9.alloc (.cells #[.int .i64 p0, .int .i64 p1, .int .i64 p2, .int .i64 q3] 25)).alloc (.cells #[.bool s0, .bool s1, .bool s2, .bool t3] 27)).heap[w7.heap.size + 1]? = some (.cells #[.bool s0, .bool s1, .bool s2, .bool s3] 27 (0, 0)) from (blk_alloc (blk_alloc (blk_below (blk_alloc (blk_alloc (blk_below (blk_second3 w7 (.cells #[.int .i64 p0, .int .i64 p1, .int .i64 p2, .int .i64 p3] 25) (.cells #[.bool s0, .bool s1, .bool s2, .bool s3] 27)) hb8) (.cells #[.int .i64 q0, .int .i64 q1, .int .i64 q2, .int .i64 q3] 25)) (.cells #[.bool t0, .bool t1, .bool t2, .bool t3] 27)) hb9) (.cells #[.int .i64 p0, .int .i64 p1, .int .i64 p2, .int .i64 q3] 25)) (.cells #[.bool s0, .bool s1, .bool s2, .bool t3] 27)))
        have D8 := Aside0.mk (show ((w9.alloc (.cells #[.int .i64 p0, .int .i64 p1, .int .i64 p2, .int .i64 q3] 25)).alloc (.cells #[.bool s0, .bool s1, .bool s2, .bool t3] 27)).heap[w8.heap.size]? = some (.cells #[.int .i64 q0, .int .i64 q1, .int .i64 q2, .int .i64 q3] 25 (0, 0)) from (blk_alloc (blk_alloc (blk_below (blk_alloc (blk_new w8 (.cells #[.int .i64 q0, .int .i64 q1, .int .i64 q2, .int .i64 q3] 25)) (.cells #[.bool t0, .bool t1, .bool t2, .bool t3] 27)) hb9) (.cells #[.int .i64 p0, .int .i64 p1, .int .i64 p2, .int .i64 q3] 25)) (.cells #[.bool s0, .bool s1, .bool s2, .bool t3] 27)))
        have F8 := Aside0.mk (show ((w9.alloc (.cells #[.int .i64 p0, .int .i64 p1, .int .i64 p2, .int .i64 q3] 25)).alloc (.cells #[.bool s0, .bool s1, .bool s2, .bool t3] 27)).heap[w8.heap.size + 1]? = some (.cells #[.bool t0, .bool t1, .bool t2, .bool t3] 27 (0, 0)) from (blk_alloc (blk_alloc (blk_below (blk_second3 w8 (.cells #[.int .i64 q0, .int .i64 q1, .int .i64 q2, .int .i64 q3] 25) (.cells #[.bool t0, .bool t1, .bool t2, .bool t3] 27)) hb9) (.cells #[.int .i64 p0, .int .i64 p1, .int .i64 p2, .int .i64 q3] 25)) (.cells #[.bool s0, .bool s1, .bool s2, .bool t3] 27)))
        have D9 := Aside0.mk (show ((w9.alloc (.cells #[.int .i64 p0, .int .i64 p1, .int .i64 p2, .int .i64 q3] 25)).alloc (.cells #[.bool s0, .bool s1, .bool s2, .bool t3] 27)).heap[w9.heap.size]? = some (.cells #[.int .i64 p0, .int .i64 p1, .int .i64 p2, .int .i64 q3] 25 (0, 0)) from (blk_alloc (blk_new w9 (.cells #[.int .i64 p0, .int .i64 p1, .int .i64 p2, .int .i64 q3] 25)) (.cells #[.bool s0, .bool s1, .bool s2, .bool t3] 27)))
        have F9 := Aside0.mk (show ((w9.alloc (.cells #[.int .i64 p0, .int .i64 p1, .int .i64 p2, .int .i64 q3] 25)).alloc (.cells #[.bool s0, .bool s1, .bool s2, .bool t3] 27)).heap[w9.heap.size + 1]? = some (.cells #[.bool s0, .bool s1, .bool s2, .bool t3] 27 (0, 0)) from (blk_second3 w9 (.cells #[.int .i64 p0, .int .i64 p1, .int .i64 p2, .int .i64 q3] 25) (.cells #[.bool s0, .bool s1, .bool s2, .bool t3] 27)))
        have HBW := Aside0.mk (show Below w.heap.size w ((w9.alloc (.cells #[.int .i64 p0, .int .i64 p1, .int .i64 p2, .int .i64 q3] 25)).alloc (.cells #[.bool s0, .bool s1, .bool s2, .bool t3] 27)) from by repeat (with_reducible first | exact Below.refl _ _ | (refine below_set ?_ (by first | omega | exact Nat.le_refl _)) | apply below_alloc | apply pw_below_drewN | apply below_drew1 | refine below_step ?_ hb9 | refine below_step ?_ hb8 | refine below_step ?_ hb7 | refine below_step ?_ hb6 | refine below_step ?_ hb5 | refine below_step ?_ hb4 | refine below_step ?_ hb3 | refine below_step ?_ hb2 | refine below_step ?_ hb1 | exact below_step (by repeat (with_reducible first | exact Below.refl _ _ | apply below_alloc | refine below_step ?_ hb0)) HBd.out))
        have NE : w1.heap.size ≠ w2.heap.size ∧ w1.heap.size ≠ w3.heap.size ∧ w1.heap.size ≠ w4.heap.size ∧ w1.heap.size ≠ w5.heap.size ∧ w1.heap.size ≠ w6.heap.size ∧ w1.heap.size ≠ w7.heap.size ∧ w1.heap.size ≠ w7.heap.size + 1 ∧ w1.heap.size ≠ w8.heap.size ∧ w1.heap.size ≠ w8.heap.size + 1 ∧ w1.heap.size ≠ w9.heap.size ∧ w1.heap.size ≠ w9.heap.size + 1 ∧ w4.heap.size ≠ w1.heap.size ∧ w4.heap.size ≠ w2.heap.size ∧ w4.heap.size ≠ w3.heap.size ∧ w4.heap.size ≠ w5.heap.size ∧ w4.heap.size ≠ w6.heap.size ∧ w4.heap.size ≠ w7.heap.size ∧ w4.heap.size ≠ w7.heap.size + 1 ∧ w4.heap.size ≠ w8.heap.size ∧ w4.heap.size ≠ w8.heap.size + 1 ∧ w4.heap.size ≠ w9.heap.size ∧ w4.heap.size ≠ w9.heap.size + 1 ∧ w7.heap.size ≠ w1.heap.size ∧ w7.heap.size ≠ w2.heap.size ∧ w7.heap.size ≠ w3.heap.size ∧ w7.heap.size ≠ w4.heap.size ∧ w7.heap.size ≠ w5.heap.size ∧ w7.heap.size ≠ w6.heap.size ∧ w7.heap.size ≠ w7.heap.size + 1 ∧ w7.heap.size ≠ w8.heap.size ∧ w7.heap.size ≠ w8.heap.size + 1 ∧ w7.heap.size ≠ w9.heap.size ∧ w7.heap.size ≠ w9.heap.size + 1 ∧ w7.heap.size + 1 ≠ w1.heap.size ∧ w7.heap.size + 1 ≠ w2.heap.size ∧ w7.heap.size + 1 ≠ w3.heap.size ∧ w7.heap.size + 1 ≠ w4.heap.size ∧ w7.heap.size + 1 ≠ w5.heap.size ∧ w7.heap.size + 1 ≠ w6.heap.size ∧ w7.heap.size + 1 ≠ w7.heap.size ∧ w7.heap.size + 1 ≠ w8.heap.size ∧ w7.heap.size + 1 ≠ w8.heap.size + 1 ∧ w7.heap.size + 1 ≠ w9.heap.size ∧ w7.heap.size + 1 ≠ w9.heap.size + 1 := by refine ⟨?_, ?_, ?_, ?_, ?_, ?_, ?_, ?_, ?_, ?_, ?_, ?_, ?_, ?_, ?_, ?_, ?_, ?_, ?_, ?_, ?_, ?_, ?_, ?_, ?_, ?_, ?_, ?_, ?_, ?_, ?_, ?_, ?_, ?_, ?_, ?_, ?_, ?_, ?_, ?_, ?_, ?_, ?_, ?_⟩ <;> omega
        have LO : w.heap.size ≤ w1.heap.size ∧ w.heap.size ≤ w4.heap.size ∧ w.heap.size ≤ w7.heap.size ∧ w.heap.size ≤ w7.heap.size + 1 := by refine ⟨?_, ?_, ?_, ?_⟩ <;> omega
        have hNE := Aside0.mk NE
        have hLO := Aside0.mk LO
        clear NE LO
        try clear hb0
        try clear hc0
        try clear hf0
        try clear z0_0
        try clear z0_1
        try clear z0_2
        try clear z0_3
        try clear z0_4
        try clear z0_5
        try clear z0_6
        try clear z0_7
        try clear z0_8
        try clear z0_9
        try clear z0_10
        try clear z0_11
        try clear z0_12
        try clear z0_13
        try clear z0_14
        try clear z0_15
        try clear z0_16
        try clear z0_17
        try clear z0_18
        try clear z0_19
        try clear z0_20
        try clear z0_21
        try clear z0_22
        try clear z0_23
        try clear z0_24
        try clear z0_25
        try clear z0_26
        try clear z0_27
        try clear z0_28
        try clear z0_29
        try clear y0_0
        try clear y0_1
        try clear y0_2
        try clear y0_3
        try clear y0_4
        try clear y0_5
        try clear y0_6
        try clear y0_7
        try clear y0_8
        try clear y0_9
        try clear y0_10
        try clear y0_11
        try clear y0_12
        try clear y0_13
        try clear y0_14
        try clear y0_15
        try clear y0_16
        try clear y0_17
        try clear y0_18
        try clear y0_19
        try clear y0_20
        try clear y0_21
        try clear y0_22
        try clear y0_23
        try clear y0_24
        try clear y0_25
        try clear y0_26
        try clear y0_27
        try clear y0_28
        try clear y0_29
        try clear hb1
        try clear hc1
        try clear hf1
        try clear z1_0
        try clear z1_1
        try clear z1_2
        try clear z1_3
        try clear z1_4
        try clear z1_5
        try clear z1_6
        try clear z1_7
        try clear z1_8
        try clear z1_9
        try clear z1_10
        try clear z1_11
        try clear z1_12
        try clear z1_13
        try clear z1_14
        try clear z1_15
        try clear z1_16
        try clear z1_17
        try clear z1_18
        try clear z1_19
        try clear z1_20
        try clear z1_21
        try clear z1_22
        try clear z1_23
        try clear z1_24
        try clear z1_25
        try clear z1_26
        try clear z1_27
        try clear z1_28
        try clear z1_29
        try clear y1_0
        try clear y1_1
        try clear y1_2
        try clear y1_3
        try clear y1_4
        try clear y1_5
        try clear y1_6
        try clear y1_7
        try clear y1_8
        try clear y1_9
        try clear y1_10
        try clear y1_11
        try clear y1_12
        try clear y1_13
        try clear y1_14
        try clear y1_15
        try clear y1_16
        try clear y1_17
        try clear y1_18
        try clear y1_19
        try clear y1_20
        try clear y1_21
        try clear y1_22
        try clear y1_23
        try clear y1_24
        try clear y1_25
        try clear y1_26
        try clear y1_27
        try clear y1_28
        try clear y1_29
        try clear hb2
        try clear hc2
        try clear hf2
        try clear z2_0
        try clear z2_1
        try clear z2_2
        try clear z2_3
        try clear z2_4
        try clear z2_5
        try clear z2_6
        try clear z2_7
        try clear z2_8
        try clear z2_9
        try clear z2_10
        try clear z2_11
        try clear z2_12
        try clear z2_13
        try clear z2_14
        try clear z2_15
        try clear z2_16
        try clear z2_17
        try clear z2_18
        try clear z2_19
        try clear z2_20
        try clear z2_21
        try clear z2_22
        try clear z2_23
        try clear z2_24
        try clear z2_25
        try clear z2_26
        try clear z2_27
        try clear z2_28
        try clear z2_29
        try clear y2_0
        try clear y2_1
        try clear y2_2
        try clear y2_3
        try clear y2_4
        try clear y2_5
        try clear y2_6
        try clear y2_7
        try clear y2_8
        try clear y2_9
        try clear y2_10
        try clear y2_11
        try clear y2_12
        try clear y2_13
        try clear y2_14
        try clear y2_15
        try clear y2_16
        try clear y2_17
        try clear y2_18
        try clear y2_19
        try clear y2_20
        try clear y2_21
        try clear y2_22
        try clear y2_23
        try clear y2_24
        try clear y2_25
        try clear y2_26
        try clear y2_27
        try clear y2_28
        try clear y2_29
        try clear hb3
        try clear hc3
        try clear hf3
        try clear z3_0
        try clear z3_1
        try clear z3_2
        try clear z3_3
        try clear z3_4
        try clear z3_5
        try clear z3_6
        try clear z3_7
        try clear z3_8
        try clear z3_9
        try clear z3_10
        try clear z3_11
        try clear z3_12
        try clear z3_13
        try clear z3_14
        try clear z3_15
        try clear z3_16
        try clear z3_17
        try clear z3_18
        try clear z3_19
        try clear z3_20
        try clear z3_21
        try clear z3_22
        try clear z3_23
        try clear z3_24
        try clear z3_25
        try clear z3_26
        try clear z3_27
        try clear z3_28
        try clear z3_29
        try clear y3_0
        try clear y3_1
        try clear y3_2
        try clear y3_3
        try clear y3_4
        try clear y3_5
        try clear y3_6
        try clear y3_7
        try clear y3_8
        try clear y3_9
        try clear y3_10
        try clear y3_11
        try clear y3_12
        try clear y3_13
        try clear y3_14
        try clear y3_15
        try clear y3_16
        try clear y3_17
        try clear y3_18
        try clear y3_19
        try clear y3_20
        try clear y3_21
        try clear y3_22
        try clear y3_23
        try clear y3_24
        try clear y3_25
        try clear y3_26
        try clear y3_27
        try clear y3_28
        try clear y3_29
        try clear hb4
        try clear hc4
        try clear hf4
        try clear z4_0
        try clear z4_1
        try clear z4_2
        try clear z4_3
        try clear z4_4
        try clear z4_5
        try clear z4_6
        try clear z4_7
        try clear z4_8
        try clear z4_9
        try clear z4_10
        try clear z4_11
        try clear z4_12
        try clear z4_13
        try clear z4_14
        try clear z4_15
        try clear z4_16
        try clear z4_17
        try clear z4_18
        try clear z4_19
        try clear z4_20
        try clear z4_21
        try clear z4_22
        try clear z4_23
        try clear z4_24
        try clear z4_25
        try clear z4_26
        try clear z4_27
        try clear z4_28
        try clear z4_29
        try clear y4_0
        try clear y4_1
        try clear y4_2
        try clear y4_3
        try clear y4_4
        try clear y4_5
        try clear y4_6
        try clear y4_7
        try clear y4_8
        try clear y4_9
        try clear y4_10
        try clear y4_11
        try clear y4_12
        try clear y4_13
        try clear y4_14
        try clear y4_15
        try clear y4_16
        try clear y4_17
        try clear y4_18
        try clear y4_19
        try clear y4_20
        try clear y4_21
        try clear y4_22
        try clear y4_23
        try clear y4_24
        try clear y4_25
        try clear y4_26
        try clear y4_27
        try clear y4_28
        try clear y4_29
        try clear hb5
        try clear hc5
        try clear hf5
        try clear z5_0
        try clear z5_1
        try clear z5_2
        try clear z5_3
        try clear z5_4
        try clear z5_5
        try clear z5_6
        try clear z5_7
        try clear z5_8
        try clear z5_9
        try clear z5_10
        try clear z5_11
        try clear z5_12
        try clear z5_13
        try clear z5_14
        try clear z5_15
        try clear z5_16
        try clear z5_17
        try clear z5_18
        try clear z5_19
        try clear z5_20
        try clear z5_21
        try clear z5_22
        try clear z5_23
        try clear z5_24
        try clear z5_25
        try clear z5_26
        try clear z5_27
        try clear z5_28
        try clear z5_29
        try clear y5_0
        try clear y5_1
        try clear y5_2
        try clear y5_3
        try clear y5_4
        try clear y5_5
        try clear y5_6
        try clear y5_7
        try clear y5_8
        try clear y5_9
        try clear y5_10
        try clear y5_11
        try clear y5_12
        try clear y5_13
        try clear y5_14
        try clear y5_15
        try clear y5_16
        try clear y5_17
        try clear y5_18
        try clear y5_19
        try clear y5_20
        try clear y5_21
        try clear y5_22
        try clear y5_23
        try clear y5_24
        try clear y5_25
        try clear y5_26
        try clear y5_27
        try clear y5_28
        try clear y5_29
        try clear hb6
        try clear hc6
        try clear hf6
        try clear z6_0
        try clear z6_1
        try clear z6_2
        try clear z6_3
        try clear z6_4
        try clear z6_5
        try clear z6_6
        try clear z6_7
        try clear z6_8
        try clear z6_9
        try clear z6_10
        try clear z6_11
        try clear z6_12
        try clear z6_13
        try clear z6_14
        try clear z6_15
        try clear z6_16
        try clear z6_17
        try clear z6_18
        try clear z6_19
        try clear z6_20
        try clear z6_21
        try clear z6_22
        try clear z6_23
        try clear z6_24
        try clear z6_25
        try clear z6_26
        try clear z6_27
        try clear z6_28
        try clear z6_29
        try clear y6_0
        try clear y6_1
        try clear y6_2
        try clear y6_3
        try clear y6_4
        try clear y6_5
        try clear y6_6
        try clear y6_7
        try clear y6_8
        try clear y6_9
        try clear y6_10
        try clear y6_11
        try clear y6_12
        try clear y6_13
        try clear y6_14
        try clear y6_15
        try clear y6_16
        try clear y6_17
        try clear y6_18
        try clear y6_19
        try clear y6_20
        try clear y6_21
        try clear y6_22
        try clear y6_23
        try clear y6_24
        try clear y6_25
        try clear y6_26
        try clear y6_27
        try clear y6_28
        try clear y6_29
        try clear hb7
        try clear hc7
        try clear hf7
        try clear z7_0
        try clear z7_1
        try clear z7_2
        try clear z7_3
        try clear z7_4
        try clear z7_5
        try clear z7_6
        try clear z7_7
        try clear z7_8
        try clear z7_9
        try clear z7_10
        try clear z7_11
        try clear z7_12
        try clear z7_13
        try clear z7_14
        try clear z7_15
        try clear z7_16
        try clear z7_17
        try clear z7_18
        try clear z7_19
        try clear z7_20
        try clear z7_21
        try clear z7_22
        try clear z7_23
        try clear z7_24
        try clear z7_25
        try clear z7_26
        try clear z7_27
        try clear z7_28
        try clear z7_29
        try clear y7_0
        try clear y7_1
        try clear y7_2
        try clear y7_3
        try clear y7_4
        try clear y7_5
        try clear y7_6
        try clear y7_7
        try clear y7_8
        try clear y7_9
        try clear y7_10
        try clear y7_11
        try clear y7_12
        try clear y7_13
        try clear y7_14
        try clear y7_15
        try clear y7_16
        try clear y7_17
        try clear y7_18
        try clear y7_19
        try clear y7_20
        try clear y7_21
        try clear y7_22
        try clear y7_23
        try clear y7_24
        try clear y7_25
        try clear y7_26
        try clear y7_27
        try clear y7_28
        try clear y7_29
        try clear hb8
        try clear hc8
        try clear hf8
        try clear z8_0
        try clear z8_1
        try clear z8_2
        try clear z8_3
        try clear z8_4
        try clear z8_5
        try clear z8_6
        try clear z8_7
        try clear z8_8
        try clear z8_9
        try clear z8_10
        try clear z8_11
        try clear z8_12
        try clear z8_13
        try clear z8_14
        try clear z8_15
        try clear z8_16
        try clear z8_17
        try clear z8_18
        try clear z8_19
        try clear z8_20
        try clear z8_21
        try clear z8_22
        try clear z8_23
        try clear z8_24
        try clear z8_25
        try clear z8_26
        try clear z8_27
        try clear z8_28
        try clear z8_29
        try clear y8_0
        try clear y8_1
        try clear y8_2
        try clear y8_3
        try clear y8_4
        try clear y8_5
        try clear y8_6
        try clear y8_7
        try clear y8_8
        try clear y8_9
        try clear y8_10
        try clear y8_11
        try clear y8_12
        try clear y8_13
        try clear y8_14
        try clear y8_15
        try clear y8_16
        try clear y8_17
        try clear y8_18
        try clear y8_19
        try clear y8_20
        try clear y8_21
        try clear y8_22
        try clear y8_23
        try clear y8_24
        try clear y8_25
        try clear y8_26
        try clear y8_27
        try clear y8_28
        try clear y8_29
        try clear hb9
        try clear hc9
        try clear hf9
        try clear z9_0
        try clear z9_1
        try clear z9_2
        try clear z9_3
        try clear z9_4
        try clear z9_5
        try clear z9_6
        try clear z9_7
        try clear z9_8
        try clear z9_9
        try clear z9_10
        try clear z9_11
        try clear z9_12
        try clear z9_13
        try clear z9_14
        try clear z9_15
        try clear z9_16
        try clear z9_17
        try clear z9_18
        try clear z9_19
        try clear z9_20
        try clear z9_21
        try clear z9_22
        try clear z9_23
        try clear z9_24
        try clear z9_25
        try clear z9_26
        try clear z9_27
        try clear z9_28
        try clear z9_29
        try clear y9_0
        try clear y9_1
        try clear y9_2
        try clear y9_3
        try clear y9_4
        try clear y9_5
        try clear y9_6
        try clear y9_7
        try clear y9_8
        try clear y9_9
        try clear y9_10
        try clear y9_11
        try clear y9_12
        try clear y9_13
        try clear y9_14
        try clear y9_15
        try clear y9_16
        try clear y9_17
        try clear y9_18
        try clear y9_19
        try clear y9_20
        try clear y9_21
        try clear y9_22
        try clear y9_23
        try clear y9_24
        try clear y9_25
        try clear y9_26
        try clear y9_27
        try clear y9_28
        try clear y9_29
        try clear hcd
        try clear hfd
        try clear zd1
        try clear zd2
        try clear zd3
        try clear HBd
        try clear C1
        try clear C2
        try clear C3
        try clear G1
        try clear G2
        try clear G3
        try clear G4
        try clear G5
        try clear G6
        try clear zd_0
        try clear zd_1
        try clear zd_2
        try clear zd_3
        try clear zd_4
        try clear zd_5
        try clear zd_6
        try clear c1_0
        try clear c1_1
        try clear c1_2
        try clear c1_3
        try clear c2_0
        try clear c2_1
        try clear c2_2
        try clear c2_3
        try clear c3_0
        try clear c3_1
        try clear c3_2
        try clear c3_3
        generalize w7.heap.size + 1 = c7 at F7 hNE hLO ⊢
        generalize w8.heap.size + 1 = c8 at F8 hNE hLO ⊢
        generalize w9.heap.size + 1 = c9 at F9 hNE hLO ⊢
        generalize w1.heap.size = b1 at D1 hNE hLO ⊢
        generalize w2.heap.size = b2 at D2 hNE hLO ⊢
        generalize w3.heap.size = b3 at D3 hNE hLO ⊢
        generalize w4.heap.size = b4 at D4 hNE hLO ⊢
        generalize w5.heap.size = b5 at D5 hNE hLO ⊢
        generalize w6.heap.size = b6 at D6 hNE hLO ⊢
        generalize w7.heap.size = b7 at D7 hNE hLO ⊢
        generalize w8.heap.size = b8 at D8 hNE hLO ⊢
        generalize w9.heap.size = b9 at D9 hNE hLO ⊢
        generalize ((w9.alloc (.cells #[.int .i64 p0, .int .i64 p1, .int .i64 p2, .int .i64 q3] 25)).alloc (.cells #[.bool s0, .bool s1, .bool s2, .bool t3] 27)) = W at D1 D2 D3 D4 D5 D6 D7 F7 D8 F8 D9 F9 HBW ⊢
        obtain ⟨n_b1_b2, n_b1_b3, n_b1_b4, n_b1_b5, n_b1_b6, n_b1_b7, n_b1_c7, n_b1_b8, n_b1_c8, n_b1_b9, n_b1_c9, n_b4_b1, n_b4_b2, n_b4_b3, n_b4_b5, n_b4_b6, n_b4_b7, n_b4_c7, n_b4_b8, n_b4_c8, n_b4_b9, n_b4_c9, n_b7_b1, n_b7_b2, n_b7_b3, n_b7_b4, n_b7_b5, n_b7_b6, n_b7_c7, n_b7_b8, n_b7_c8, n_b7_b9, n_b7_c9, n_c7_b1, n_c7_b2, n_c7_b3, n_c7_b4, n_c7_b5, n_c7_b6, n_c7_b7, n_c7_b8, n_c7_c8, n_c7_b9, n_c7_c9⟩ := hNE.out
        go_cut [] (fun wd => Aside0 (wd.heap[b1]? = some (.cells #[.int .i64 e0, .int .i64 e1, .int .i64 e2, .int .i64 f3] 25 (0, 0))) ∧ Aside0 (wd.heap[b3]? = some (.cells #[.int .i64 e0, .int .i64 e1, .int .i64 e2, .int .i64 f3] 25 (0, 0))) ∧ Aside0 (wd.heap[b4]? = some (.cells #[.int .i64 x0, .int .i64 x1, .int .i64 x2, .int .i64 y3] 25 (0, 0))) ∧ Aside0 (wd.heap[b6]? = some (.cells #[.int .i64 x0, .int .i64 x1, .int .i64 x2, .int .i64 y3] 25 (0, 0))) ∧ Aside0 (wd.heap[b7]? = some (.cells #[.int .i64 p0, .int .i64 p1, .int .i64 p2, .int .i64 q3] 25 (0, 0))) ∧ Aside0 (wd.heap[b9]? = some (.cells #[.int .i64 p0, .int .i64 p1, .int .i64 p2, .int .i64 q3] 25 (0, 0))) ∧ Aside0 (wd.heap[c7]? = some (.cells #[.bool s0, .bool s1, .bool s2, .bool t3] 27 (0, 0))) ∧ Aside0 (wd.heap[c9]? = some (.cells #[.bool s0, .bool s1, .bool s2, .bool t3] 27 (0, 0))) ∧ Aside0 (Below w.heap.size w wd))
        case first =>
          have r_D2 : W.cell? ⟨b2, 3, none⟩ = some (.int .i64 f3) := (blk_cell D2.out 3).trans rfl
          have r_D1 : W.cell? ⟨b1, 3, none⟩ = some (.int .i64 e3) := (blk_cell D1.out 3).trans rfl
          have fr_b1 : W.frozen? ⟨b1, 3, none⟩ = false := blk_frozen D1.out 3
          have r_D5 : W.cell? ⟨b5, 3, none⟩ = some (.int .i64 y3) := (blk_cell D5.out 3).trans rfl
          have r_D4 : W.cell? ⟨b4, 3, none⟩ = some (.int .i64 x3) := (blk_cell D4.out 3).trans rfl
          have fr_b4 : W.frozen? ⟨b4, 3, none⟩ = false := blk_frozen D4.out 3
          have r_D8 : W.cell? ⟨b8, 3, none⟩ = some (.int .i64 q3) := (blk_cell D8.out 3).trans rfl
          have r_D7 : W.cell? ⟨b7, 3, none⟩ = some (.int .i64 p3) := (blk_cell D7.out 3).trans rfl
          have fr_b7 : W.frozen? ⟨b7, 3, none⟩ = false := blk_frozen D7.out 3
          have r_F8 : W.cell? ⟨c8, 3, none⟩ = some (.bool t3) := (blk_cell F8.out 3).trans rfl
          have r_F7 : W.cell? ⟨c7, 3, none⟩ = some (.bool s3) := (blk_cell F7.out 3).trans rfl
          have fr_c7 : W.frozen? ⟨c7, 3, none⟩ = false := blk_frozen F7.out 3
          refine start_ (n := 24) (S := fun w' => w'.cell? ⟨b2, 3, none⟩ = some (.int .i64 f3) ∧ w'.cell? ⟨b5, 3, none⟩ = some (.int .i64 y3) ∧ w'.cell? ⟨b8, 3, none⟩ = some (.int .i64 q3) ∧ w'.cell? ⟨c8, 3, none⟩ = some (.bool t3)) (ds := []) #[false, false, false, false, false, false, false, false, false, false, false, false, false, false, false, false, false, false, false, false, false, false, false, false] (by kernel_rfl) rfl rfl ⟨r_D2, r_D5, r_D8, r_F8⟩ (fun hHeld => ?_)
          refine with_tabW cells3.tab18 cells3.bits18 (fun HT_ HW_ => ?_)
          replace D1 := Aside0.mk (blk_drew D1.out)
          replace D2 := Aside0.mk (blk_drew D2.out)
          replace D3 := Aside0.mk (blk_drew D3.out)
          replace D4 := Aside0.mk (blk_drew D4.out)
          replace D5 := Aside0.mk (blk_drew D5.out)
          replace D6 := Aside0.mk (blk_drew D6.out)
          replace D7 := Aside0.mk (blk_drew D7.out)
          replace F7 := Aside0.mk (blk_drew F7.out)
          replace D8 := Aside0.mk (blk_drew D8.out)
          replace F8 := Aside0.mk (blk_drew F8.out)
          replace D9 := Aside0.mk (blk_drew D9.out)
          replace F9 := Aside0.mk (blk_drew F9.out)
          replace HBW := Aside0.mk (below_drew1 HBW.out)
          clear fr_b1 fr_b4 fr_b7 fr_c7 r_D1 r_D2 r_D4 r_D5 r_D7 r_D8 r_F7 r_F8
          generalize W.drew = V at D1 D2 D3 D4 D5 D6 D7 F7 D8 F8 D9 F9 HBW hHeld ⊢
          refine pure_ (i := 0) (N := some 169) (v := ?_) (a' := ?_) #[true, false, false, false, false, false, false, false, false, false, false, false, false, false, false, false, false, false, false, false, false, false, false, false] rfl rfl (any_of HT_.out (by kernel_rfl)) (fun _ _ _ h => h) (Or.inl ⟨by rfl, ?_⟩) ?_ ?_
          rotate_left
          · intro w'
            go_simp
            with_reducible rfl
          rotate_left
          · simp only [Act.put, List.setIfInBounds_toArray, List.set_cons_zero, List.set_cons_succ, i64_w, i32_w]
            rfl
          refine pure_ (i := 1) (N := some 170) (v := ?_) (a' := ?_) #[true, true, false, false, false, false, false, false, false, false, false, false, false, false, false, false, false, false, false, false, false, false, false, false] rfl rfl (any_of HT_.out (by kernel_rfl)) (fun _ _ _ h => h) (Or.inl ⟨by rfl, ?_⟩) ?_ ?_
          rotate_left
          · intro w'
            go_simp
            with_reducible rfl
          rotate_left
          · simp only [Act.put, List.setIfInBounds_toArray, List.set_cons_zero, List.set_cons_succ, i64_w, i32_w]
            rfl
          refine pure_ (i := 2) (N := some 171) (v := ?_) (a' := ?_) #[true, true, true, false, false, false, false, false, false, false, false, false, false, false, false, false, false, false, false, false, false, false, false, false] rfl rfl (any_of HT_.out (by kernel_rfl)) (fun _ _ _ h => h) (Or.inl ⟨by rfl, ?_⟩) ?_ ?_
          rotate_left
          · intro w'
            go_simp
            with_reducible rfl
          rotate_left
          · simp only [Act.put, List.setIfInBounds_toArray, List.set_cons_zero, List.set_cons_succ, i64_w, i32_w]
            rfl
          refine pure_ (i := 3) (N := some 172) (v := ?_) (a' := ?_) #[true, true, true, true, false, false, false, false, false, false, false, false, false, false, false, false, false, false, false, false, false, false, false, false] rfl rfl (any_of HT_.out (by kernel_rfl)) (fun _ _ _ h => h) (Or.inl ⟨by rfl, ?_⟩) ?_ ?_
          rotate_left
          · intro w'
            go_simp
            with_reducible rfl
          rotate_left
          · simp only [Act.put, List.setIfInBounds_toArray, List.set_cons_zero, List.set_cons_succ, i64_w, i32_w]
            rfl
          refine pure_ (i := 4) (N := some 173) (v := ?_) (a' := ?_) #[true, true, true, true, true, false, false, false, false, false, false, false, false, false, false, false, false, false, false, false, false, false, false, false] rfl rfl (any_of HT_.out (by kernel_rfl)) (fun _ _ _ h => h) (Or.inl ⟨by rfl, ?_⟩) ?_ ?_
          rotate_left
          · intro w'
            go_simp
            with_reducible rfl
          rotate_left
          · simp only [Act.put, List.setIfInBounds_toArray, List.set_cons_zero, List.set_cons_succ, i64_w, i32_w]
            rfl
          refine pure_ (i := 5) (N := some 174) (v := ?_) (a' := ?_) #[true, true, true, true, true, true, false, false, false, false, false, false, false, false, false, false, false, false, false, false, false, false, false, false] rfl rfl (any_of HT_.out (by kernel_rfl)) (fun _ _ _ h => h) (Or.inl ⟨by rfl, ?_⟩) ?_ ?_
          rotate_left
          · intro w'
            go_simp
            with_reducible rfl
          rotate_left
          · simp only [Act.put, List.setIfInBounds_toArray, List.set_cons_zero, List.set_cons_succ, i64_w, i32_w]
            rfl
          refine pure_ (i := 7) (N := some 176) (v := ?_) (a' := ?_) #[true, true, true, true, true, true, false, true, false, false, false, false, false, false, false, false, false, false, false, false, false, false, false, false] rfl rfl (any_of HT_.out (by kernel_rfl)) (fun _ _ _ h => h) (Or.inl ⟨by rfl, ?_⟩) ?_ ?_
          rotate_left
          · intro w'
            go_simp
            with_reducible rfl
          rotate_left
          · simp only [Act.put, List.setIfInBounds_toArray, List.set_cons_zero, List.set_cons_succ, i64_w, i32_w]
            rfl
          refine pure_ (i := 8) (N := some 177) (v := ?_) (a' := ?_) #[true, true, true, true, true, true, false, true, true, false, false, false, false, false, false, false, false, false, false, false, false, false, false, false] rfl rfl (any_of HT_.out (by kernel_rfl)) (fun _ _ _ h => h) (Or.inl ⟨by rfl, ?_⟩) ?_ ?_
          rotate_left
          · intro w'
            go_simp
            with_reducible rfl
          rotate_left
          · simp only [Act.put, List.setIfInBounds_toArray, List.set_cons_zero, List.set_cons_succ, i64_w, i32_w]
            rfl
          refine pure_ (i := 10) (N := some 179) (v := ?_) (a' := ?_) #[true, true, true, true, true, true, false, true, true, false, true, false, false, false, false, false, false, false, false, false, false, false, false, false] rfl rfl (any_of HT_.out (by kernel_rfl)) (fun _ _ _ h => h) (Or.inl ⟨by rfl, ?_⟩) ?_ ?_
          rotate_left
          · intro w'
            go_simp
            with_reducible rfl
          rotate_left
          · simp only [Act.put, List.setIfInBounds_toArray, List.set_cons_zero, List.set_cons_succ, i64_w, i32_w]
            rfl
          refine pure_ (i := 11) (N := some 180) (v := ?_) (a' := ?_) #[true, true, true, true, true, true, false, true, true, false, true, true, false, false, false, false, false, false, false, false, false, false, false, false] rfl rfl (any_of HT_.out (by kernel_rfl)) (fun _ _ _ h => h) (Or.inl ⟨by rfl, ?_⟩) ?_ ?_
          rotate_left
          · intro w'
            go_simp
            with_reducible rfl
          rotate_left
          · simp only [Act.put, List.setIfInBounds_toArray, List.set_cons_zero, List.set_cons_succ, i64_w, i32_w]
            rfl
          refine pure_ (i := 13) (N := some 182) (v := ?_) (a' := ?_) #[true, true, true, true, true, true, false, true, true, false, true, true, false, true, false, false, false, false, false, false, false, false, false, false] rfl rfl (any_of HT_.out (by kernel_rfl)) (fun _ _ _ h => h) (Or.inl ⟨by rfl, ?_⟩) ?_ ?_
          rotate_left
          · intro w'
            go_simp
            with_reducible rfl
          rotate_left
          · simp only [Act.put, List.setIfInBounds_toArray, List.set_cons_zero, List.set_cons_succ, i64_w, i32_w]
            rfl
          refine pure_ (i := 14) (N := some 183) (v := ?_) (a' := ?_) #[true, true, true, true, true, true, false, true, true, false, true, true, false, true, true, false, false, false, false, false, false, false, false, false] rfl rfl (any_of HT_.out (by kernel_rfl)) (fun _ _ _ h => h) (Or.inl ⟨by rfl, ?_⟩) ?_ ?_
          rotate_left
          · intro w'
            go_simp
            with_reducible rfl
          rotate_left
          · simp only [Act.put, List.setIfInBounds_toArray, List.set_cons_zero, List.set_cons_succ, i64_w, i32_w]
            rfl
          refine take_ (i := 6) (N := some 175) (v := ?_) (a' := ?_) #[true, true, true, true, true, true, true, true, true, false, true, true, false, true, true, false, false, false, false, false, false, false, false, false] rfl rfl (take_ofW HT_.out HW_.out (by kernel_rfl)) (fun _ _ _ h => h) (Or.inl ⟨by rfl, ?_⟩) hHeld ?_ ?_
          rotate_left
          · rintro w' ⟨s0, s1, s2, s3⟩
            go_simp
            with_reducible rfl
          rotate_left
          · simp only [Act.put, List.setIfInBounds_toArray, List.set_cons_zero, List.set_cons_succ, i64_w, i32_w]
            rfl
          refine take_ (i := 9) (N := some 178) (v := ?_) (a' := ?_) #[true, true, true, true, true, true, true, true, true, true, true, true, false, true, true, false, false, false, false, false, false, false, false, false] rfl rfl (take_ofW HT_.out HW_.out (by kernel_rfl)) (fun _ _ _ h => h) (Or.inl ⟨by rfl, ?_⟩) hHeld ?_ ?_
          rotate_left
          · rintro w' ⟨s0, s1, s2, s3⟩
            go_simp
            with_reducible rfl
          rotate_left
          · simp only [Act.put, List.setIfInBounds_toArray, List.set_cons_zero, List.set_cons_succ, i64_w, i32_w]
            rfl
          refine take_ (i := 12) (N := some 181) (v := ?_) (a' := ?_) #[true, true, true, true, true, true, true, true, true, true, true, true, true, true, true, false, false, false, false, false, false, false, false, false] rfl rfl (take_ofW HT_.out HW_.out (by kernel_rfl)) (fun _ _ _ h => h) (Or.inl ⟨by rfl, ?_⟩) hHeld ?_ ?_
          rotate_left
          · rintro w' ⟨s0, s1, s2, s3⟩
            go_simp
            with_reducible rfl
          rotate_left
          · simp only [Act.put, List.setIfInBounds_toArray, List.set_cons_zero, List.set_cons_succ, i64_w, i32_w]
            rfl
          refine take_ (i := 15) (N := some 184) (v := ?_) (a' := ?_) #[true, true, true, true, true, true, true, true, true, true, true, true, true, true, true, true, false, false, false, false, false, false, false, false] rfl rfl (take_ofW HT_.out HW_.out (by kernel_rfl)) (fun _ _ _ h => h) (Or.inl ⟨by rfl, ?_⟩) hHeld ?_ ?_
          rotate_left
          · rintro w' ⟨s0, s1, s2, s3⟩
            go_simp
            with_reducible rfl
          rotate_left
          · simp only [Act.put, List.setIfInBounds_toArray, List.set_cons_zero, List.set_cons_succ, i64_w, i32_w]
            rfl
          refine pure_ (i := 16) (N := some 185) (v := ?_) (a' := ?_) #[true, true, true, true, true, true, true, true, true, true, true, true, true, true, true, true, true, false, false, false, false, false, false, false] rfl rfl (any_of HT_.out (by kernel_rfl)) (fun _ _ _ h => h) (Or.inl ⟨by rfl, ?_⟩) ?_ ?_
          rotate_left
          · intro w'
            go_simp
            with_reducible rfl
          rotate_left
          · simp only [Act.put, List.setIfInBounds_toArray, List.set_cons_zero, List.set_cons_succ, i64_w, i32_w]
            rfl
          refine one_ (i := 17) (N := none) #[true, true, true, true, true, true, true, true, true, true, true, true, true, true, true, true, true, true, false, false, false, false, false, false] rfl rfl (one_of HT_.out (by kernel_rfl)) (by decide) (fun K hK => ?_)
          have hs : V.cell? ⟨b1, 3, none⟩ = some (.int .i64 e3) := (blk_cell D1.out 3).trans rfl
          have hfs := blk_frozen D1.out 3
          refine skip_ (w1 := ?_) (by rfl) rfl ?_ ?_
          rotate_left
          · go_simp
            rfl
          replace D1 := Aside0.mk (show (V.setCell ⟨b1, 3, none⟩ (.int .i64 f3)).heap[b1]? = some (.cells #[.int .i64 e0, .int .i64 e1, .int .i64 e2, .int .i64 f3] 25 (0, 0)) from blk_put D1.out 3 _ rfl)
          replace D2 := Aside0.mk (show (V.setCell ⟨b1, 3, none⟩ (.int .i64 f3)).heap[b2]? = some (.cells #[.int .i64 f0, .int .i64 f1, .int .i64 f2, .int .i64 f3] 25 (0, 0)) from blk_far D2.out (Ne.symm n_b1_b2) _)
          replace D3 := Aside0.mk (show (V.setCell ⟨b1, 3, none⟩ (.int .i64 f3)).heap[b3]? = some (.cells #[.int .i64 e0, .int .i64 e1, .int .i64 e2, .int .i64 f3] 25 (0, 0)) from blk_far D3.out (Ne.symm n_b1_b3) _)
          replace D4 := Aside0.mk (show (V.setCell ⟨b1, 3, none⟩ (.int .i64 f3)).heap[b4]? = some (.cells #[.int .i64 x0, .int .i64 x1, .int .i64 x2, .int .i64 x3] 25 (0, 0)) from blk_far D4.out (Ne.symm n_b1_b4) _)
          replace D5 := Aside0.mk (show (V.setCell ⟨b1, 3, none⟩ (.int .i64 f3)).heap[b5]? = some (.cells #[.int .i64 y0, .int .i64 y1, .int .i64 y2, .int .i64 y3] 25 (0, 0)) from blk_far D5.out (Ne.symm n_b1_b5) _)
          replace D6 := Aside0.mk (show (V.setCell ⟨b1, 3, none⟩ (.int .i64 f3)).heap[b6]? = some (.cells #[.int .i64 x0, .int .i64 x1, .int .i64 x2, .int .i64 y3] 25 (0, 0)) from blk_far D6.out (Ne.symm n_b1_b6) _)
          replace D7 := Aside0.mk (show (V.setCell ⟨b1, 3, none⟩ (.int .i64 f3)).heap[b7]? = some (.cells #[.int .i64 p0, .int .i64 p1, .int .i64 p2, .int .i64 p3] 25 (0, 0)) from blk_far D7.out (Ne.symm n_b1_b7) _)
          replace F7 := Aside0.mk (show (V.setCell ⟨b1, 3, none⟩ (.int .i64 f3)).heap[c7]? = some (.cells #[.bool s0, .bool s1, .bool s2, .bool s3] 27 (0, 0)) from blk_far F7.out (Ne.symm n_b1_c7) _)
          replace D8 := Aside0.mk (show (V.setCell ⟨b1, 3, none⟩ (.int .i64 f3)).heap[b8]? = some (.cells #[.int .i64 q0, .int .i64 q1, .int .i64 q2, .int .i64 q3] 25 (0, 0)) from blk_far D8.out (Ne.symm n_b1_b8) _)
          replace F8 := Aside0.mk (show (V.setCell ⟨b1, 3, none⟩ (.int .i64 f3)).heap[c8]? = some (.cells #[.bool t0, .bool t1, .bool t2, .bool t3] 27 (0, 0)) from blk_far F8.out (Ne.symm n_b1_c8) _)
          replace D9 := Aside0.mk (show (V.setCell ⟨b1, 3, none⟩ (.int .i64 f3)).heap[b9]? = some (.cells #[.int .i64 p0, .int .i64 p1, .int .i64 p2, .int .i64 q3] 25 (0, 0)) from blk_far D9.out (Ne.symm n_b1_b9) _)
          replace F9 := Aside0.mk (show (V.setCell ⟨b1, 3, none⟩ (.int .i64 f3)).heap[c9]? = some (.cells #[.bool s0, .bool s1, .bool s2, .bool t3] 27 (0, 0)) from blk_far F9.out (Ne.symm n_b1_c9) _)
          replace HBW := Aside0.mk (show Below w.heap.size w (V.setCell ⟨b1, 3, none⟩ (.int .i64 f3)) from below_set HBW.out hLO.out.1)
          clear hs hfs hHeld
          generalize V.setCell ⟨b1, 3, none⟩ (.int .i64 f3) = V1 at D1 D2 D3 D4 D5 D6 D7 F7 D8 F8 D9 F9 HBW ⊢
          refine hK.out _ _ ⟨(blk_cell D2.out 3).trans rfl, (blk_cell D5.out 3).trans rfl, (blk_cell D8.out 3).trans rfl, (blk_cell F8.out 3).trans rfl⟩ (fun hHeld => ?_)
          clear hK K
          refine pure_ (i := 18) (N := some 186) (v := ?_) (a' := ?_) #[true, true, true, true, true, true, true, true, true, true, true, true, true, true, true, true, true, true, true, false, false, false, false, false] rfl rfl (any_of HT_.out (by kernel_rfl)) (fun _ _ _ h => h) (Or.inl ⟨by rfl, ?_⟩) ?_ ?_
          rotate_left
          · intro w'
            go_simp
            with_reducible rfl
          rotate_left
          · simp only [Act.put, List.setIfInBounds_toArray, List.set_cons_zero, List.set_cons_succ, i64_w, i32_w]
            rfl
          refine one_ (i := 19) (N := none) #[true, true, true, true, true, true, true, true, true, true, true, true, true, true, true, true, true, true, true, true, false, false, false, false] rfl rfl (one_of HT_.out (by kernel_rfl)) (by decide) (fun K hK => ?_)
          have hs : V1.cell? ⟨b4, 3, none⟩ = some (.int .i64 x3) := (blk_cell D4.out 3).trans rfl
          have hfs := blk_frozen D4.out 3
          refine skip_ (w1 := ?_) (by rfl) rfl ?_ ?_
          rotate_left
          · go_simp
            rfl
          replace D1 := Aside0.mk (show (V1.setCell ⟨b4, 3, none⟩ (.int .i64 y3)).heap[b1]? = some (.cells #[.int .i64 e0, .int .i64 e1, .int .i64 e2, .int .i64 f3] 25 (0, 0)) from blk_far D1.out (Ne.symm n_b4_b1) _)
          replace D2 := Aside0.mk (show (V1.setCell ⟨b4, 3, none⟩ (.int .i64 y3)).heap[b2]? = some (.cells #[.int .i64 f0, .int .i64 f1, .int .i64 f2, .int .i64 f3] 25 (0, 0)) from blk_far D2.out (Ne.symm n_b4_b2) _)
          replace D3 := Aside0.mk (show (V1.setCell ⟨b4, 3, none⟩ (.int .i64 y3)).heap[b3]? = some (.cells #[.int .i64 e0, .int .i64 e1, .int .i64 e2, .int .i64 f3] 25 (0, 0)) from blk_far D3.out (Ne.symm n_b4_b3) _)
          replace D4 := Aside0.mk (show (V1.setCell ⟨b4, 3, none⟩ (.int .i64 y3)).heap[b4]? = some (.cells #[.int .i64 x0, .int .i64 x1, .int .i64 x2, .int .i64 y3] 25 (0, 0)) from blk_put D4.out 3 _ rfl)
          replace D5 := Aside0.mk (show (V1.setCell ⟨b4, 3, none⟩ (.int .i64 y3)).heap[b5]? = some (.cells #[.int .i64 y0, .int .i64 y1, .int .i64 y2, .int .i64 y3] 25 (0, 0)) from blk_far D5.out (Ne.symm n_b4_b5) _)
          replace D6 := Aside0.mk (show (V1.setCell ⟨b4, 3, none⟩ (.int .i64 y3)).heap[b6]? = some (.cells #[.int .i64 x0, .int .i64 x1, .int .i64 x2, .int .i64 y3] 25 (0, 0)) from blk_far D6.out (Ne.symm n_b4_b6) _)
          replace D7 := Aside0.mk (show (V1.setCell ⟨b4, 3, none⟩ (.int .i64 y3)).heap[b7]? = some (.cells #[.int .i64 p0, .int .i64 p1, .int .i64 p2, .int .i64 p3] 25 (0, 0)) from blk_far D7.out (Ne.symm n_b4_b7) _)
          replace F7 := Aside0.mk (show (V1.setCell ⟨b4, 3, none⟩ (.int .i64 y3)).heap[c7]? = some (.cells #[.bool s0, .bool s1, .bool s2, .bool s3] 27 (0, 0)) from blk_far F7.out (Ne.symm n_b4_c7) _)
          replace D8 := Aside0.mk (show (V1.setCell ⟨b4, 3, none⟩ (.int .i64 y3)).heap[b8]? = some (.cells #[.int .i64 q0, .int .i64 q1, .int .i64 q2, .int .i64 q3] 25 (0, 0)) from blk_far D8.out (Ne.symm n_b4_b8) _)
          replace F8 := Aside0.mk (show (V1.setCell ⟨b4, 3, none⟩ (.int .i64 y3)).heap[c8]? = some (.cells #[.bool t0, .bool t1, .bool t2, .bool t3] 27 (0, 0)) from blk_far F8.out (Ne.symm n_b4_c8) _)
          replace D9 := Aside0.mk (show (V1.setCell ⟨b4, 3, none⟩ (.int .i64 y3)).heap[b9]? = some (.cells #[.int .i64 p0, .int .i64 p1, .int .i64 p2, .int .i64 q3] 25 (0, 0)) from blk_far D9.out (Ne.symm n_b4_b9) _)
          replace F9 := Aside0.mk (show (V1.setCell ⟨b4, 3, none⟩ (.int .i64 y3)).heap[c9]? = some (.cells #[.bool s0, .bool s1, .bool s2, .bool t3] 27 (0, 0)) from blk_far F9.out (Ne.symm n_b4_c9) _)
          replace HBW := Aside0.mk (show Below w.heap.size w (V1.setCell ⟨b4, 3, none⟩ (.int .i64 y3)) from below_set HBW.out hLO.out.2.1)
          clear hs hfs hHeld
          generalize V1.setCell ⟨b4, 3, none⟩ (.int .i64 y3) = V2 at D1 D2 D3 D4 D5 D6 D7 F7 D8 F8 D9 F9 HBW ⊢
          refine hK.out _ _ ⟨(blk_cell D2.out 3).trans rfl, (blk_cell D5.out 3).trans rfl, (blk_cell D8.out 3).trans rfl, (blk_cell F8.out 3).trans rfl⟩ (fun hHeld => ?_)
          clear hK K
          refine pure_ (i := 20) (N := some 187) (v := ?_) (a' := ?_) #[true, true, true, true, true, true, true, true, true, true, true, true, true, true, true, true, true, true, true, true, true, false, false, false] rfl rfl (any_of HT_.out (by kernel_rfl)) (fun _ _ _ h => h) (Or.inl ⟨by rfl, ?_⟩) ?_ ?_
          rotate_left
          · intro w'
            go_simp
            with_reducible rfl
          rotate_left
          · simp only [Act.put, List.setIfInBounds_toArray, List.set_cons_zero, List.set_cons_succ, i64_w, i32_w]
            rfl
          refine one_ (i := 21) (N := none) #[true, true, true, true, true, true, true, true, true, true, true, true, true, true, true, true, true, true, true, true, true, true, false, false] rfl rfl (one_of HT_.out (by kernel_rfl)) (by decide) (fun K hK => ?_)
          have hs : V2.cell? ⟨b7, 3, none⟩ = some (.int .i64 p3) := (blk_cell D7.out 3).trans rfl
          have hfs := blk_frozen D7.out 3
          refine skip_ (w1 := ?_) (by rfl) rfl ?_ ?_
          rotate_left
          · go_simp
            rfl
          replace D1 := Aside0.mk (show (V2.setCell ⟨b7, 3, none⟩ (.int .i64 q3)).heap[b1]? = some (.cells #[.int .i64 e0, .int .i64 e1, .int .i64 e2, .int .i64 f3] 25 (0, 0)) from blk_far D1.out (Ne.symm n_b7_b1) _)
          replace D2 := Aside0.mk (show (V2.setCell ⟨b7, 3, none⟩ (.int .i64 q3)).heap[b2]? = some (.cells #[.int .i64 f0, .int .i64 f1, .int .i64 f2, .int .i64 f3] 25 (0, 0)) from blk_far D2.out (Ne.symm n_b7_b2) _)
          replace D3 := Aside0.mk (show (V2.setCell ⟨b7, 3, none⟩ (.int .i64 q3)).heap[b3]? = some (.cells #[.int .i64 e0, .int .i64 e1, .int .i64 e2, .int .i64 f3] 25 (0, 0)) from blk_far D3.out (Ne.symm n_b7_b3) _)
          replace D4 := Aside0.mk (show (V2.setCell ⟨b7, 3, none⟩ (.int .i64 q3)).heap[b4]? = some (.cells #[.int .i64 x0, .int .i64 x1, .int .i64 x2, .int .i64 y3] 25 (0, 0)) from blk_far D4.out (Ne.symm n_b7_b4) _)
          replace D5 := Aside0.mk (show (V2.setCell ⟨b7, 3, none⟩ (.int .i64 q3)).heap[b5]? = some (.cells #[.int .i64 y0, .int .i64 y1, .int .i64 y2, .int .i64 y3] 25 (0, 0)) from blk_far D5.out (Ne.symm n_b7_b5) _)
          replace D6 := Aside0.mk (show (V2.setCell ⟨b7, 3, none⟩ (.int .i64 q3)).heap[b6]? = some (.cells #[.int .i64 x0, .int .i64 x1, .int .i64 x2, .int .i64 y3] 25 (0, 0)) from blk_far D6.out (Ne.symm n_b7_b6) _)
          replace D7 := Aside0.mk (show (V2.setCell ⟨b7, 3, none⟩ (.int .i64 q3)).heap[b7]? = some (.cells #[.int .i64 p0, .int .i64 p1, .int .i64 p2, .int .i64 q3] 25 (0, 0)) from blk_put D7.out 3 _ rfl)
          replace F7 := Aside0.mk (show (V2.setCell ⟨b7, 3, none⟩ (.int .i64 q3)).heap[c7]? = some (.cells #[.bool s0, .bool s1, .bool s2, .bool s3] 27 (0, 0)) from blk_far F7.out (Ne.symm n_b7_c7) _)
          replace D8 := Aside0.mk (show (V2.setCell ⟨b7, 3, none⟩ (.int .i64 q3)).heap[b8]? = some (.cells #[.int .i64 q0, .int .i64 q1, .int .i64 q2, .int .i64 q3] 25 (0, 0)) from blk_far D8.out (Ne.symm n_b7_b8) _)
          replace F8 := Aside0.mk (show (V2.setCell ⟨b7, 3, none⟩ (.int .i64 q3)).heap[c8]? = some (.cells #[.bool t0, .bool t1, .bool t2, .bool t3] 27 (0, 0)) from blk_far F8.out (Ne.symm n_b7_c8) _)
          replace D9 := Aside0.mk (show (V2.setCell ⟨b7, 3, none⟩ (.int .i64 q3)).heap[b9]? = some (.cells #[.int .i64 p0, .int .i64 p1, .int .i64 p2, .int .i64 q3] 25 (0, 0)) from blk_far D9.out (Ne.symm n_b7_b9) _)
          replace F9 := Aside0.mk (show (V2.setCell ⟨b7, 3, none⟩ (.int .i64 q3)).heap[c9]? = some (.cells #[.bool s0, .bool s1, .bool s2, .bool t3] 27 (0, 0)) from blk_far F9.out (Ne.symm n_b7_c9) _)
          replace HBW := Aside0.mk (show Below w.heap.size w (V2.setCell ⟨b7, 3, none⟩ (.int .i64 q3)) from below_set HBW.out hLO.out.2.2.1)
          clear hs hfs hHeld
          generalize V2.setCell ⟨b7, 3, none⟩ (.int .i64 q3) = V3 at D1 D2 D3 D4 D5 D6 D7 F7 D8 F8 D9 F9 HBW ⊢
          refine hK.out _ _ ⟨(blk_cell D2.out 3).trans rfl, (blk_cell D5.out 3).trans rfl, (blk_cell D8.out 3).trans rfl, (blk_cell F8.out 3).trans rfl⟩ (fun hHeld => ?_)
          clear hK K
          refine pure_ (i := 22) (N := some 188) (v := ?_) (a' := ?_) #[true, true, true, true, true, true, true, true, true, true, true, true, true, true, true, true, true, true, true, true, true, true, true, false] rfl rfl (any_of HT_.out (by kernel_rfl)) (fun _ _ _ h => h) (Or.inl ⟨by rfl, ?_⟩) ?_ ?_
          rotate_left
          · intro w'
            go_simp
            with_reducible rfl
          rotate_left
          · simp only [Act.put, List.setIfInBounds_toArray, List.set_cons_zero, List.set_cons_succ, i64_w, i32_w]
            rfl
          refine one_ (i := 23) (N := none) #[true, true, true, true, true, true, true, true, true, true, true, true, true, true, true, true, true, true, true, true, true, true, true, true] rfl rfl (one_of HT_.out (by kernel_rfl)) (by decide) (fun K hK => ?_)
          have hs : V3.cell? ⟨c7, 3, none⟩ = some (.bool s3) := (blk_cell F7.out 3).trans rfl
          have hfs := blk_frozen F7.out 3
          refine skip_ (w1 := ?_) (by rfl) rfl ?_ ?_
          rotate_left
          · go_simp
            rfl
          replace D1 := Aside0.mk (show (V3.setCell ⟨c7, 3, none⟩ (.bool t3)).heap[b1]? = some (.cells #[.int .i64 e0, .int .i64 e1, .int .i64 e2, .int .i64 f3] 25 (0, 0)) from blk_far D1.out (Ne.symm n_c7_b1) _)
          replace D2 := Aside0.mk (show (V3.setCell ⟨c7, 3, none⟩ (.bool t3)).heap[b2]? = some (.cells #[.int .i64 f0, .int .i64 f1, .int .i64 f2, .int .i64 f3] 25 (0, 0)) from blk_far D2.out (Ne.symm n_c7_b2) _)
          replace D3 := Aside0.mk (show (V3.setCell ⟨c7, 3, none⟩ (.bool t3)).heap[b3]? = some (.cells #[.int .i64 e0, .int .i64 e1, .int .i64 e2, .int .i64 f3] 25 (0, 0)) from blk_far D3.out (Ne.symm n_c7_b3) _)
          replace D4 := Aside0.mk (show (V3.setCell ⟨c7, 3, none⟩ (.bool t3)).heap[b4]? = some (.cells #[.int .i64 x0, .int .i64 x1, .int .i64 x2, .int .i64 y3] 25 (0, 0)) from blk_far D4.out (Ne.symm n_c7_b4) _)
          replace D5 := Aside0.mk (show (V3.setCell ⟨c7, 3, none⟩ (.bool t3)).heap[b5]? = some (.cells #[.int .i64 y0, .int .i64 y1, .int .i64 y2, .int .i64 y3] 25 (0, 0)) from blk_far D5.out (Ne.symm n_c7_b5) _)
          replace D6 := Aside0.mk (show (V3.setCell ⟨c7, 3, none⟩ (.bool t3)).heap[b6]? = some (.cells #[.int .i64 x0, .int .i64 x1, .int .i64 x2, .int .i64 y3] 25 (0, 0)) from blk_far D6.out (Ne.symm n_c7_b6) _)
          replace D7 := Aside0.mk (show (V3.setCell ⟨c7, 3, none⟩ (.bool t3)).heap[b7]? = some (.cells #[.int .i64 p0, .int .i64 p1, .int .i64 p2, .int .i64 q3] 25 (0, 0)) from blk_far D7.out (Ne.symm n_c7_b7) _)
          replace F7 := Aside0.mk (show (V3.setCell ⟨c7, 3, none⟩ (.bool t3)).heap[c7]? = some (.cells #[.bool s0, .bool s1, .bool s2, .bool t3] 27 (0, 0)) from blk_put F7.out 3 _ rfl)
          replace D8 := Aside0.mk (show (V3.setCell ⟨c7, 3, none⟩ (.bool t3)).heap[b8]? = some (.cells #[.int .i64 q0, .int .i64 q1, .int .i64 q2, .int .i64 q3] 25 (0, 0)) from blk_far D8.out (Ne.symm n_c7_b8) _)
          replace F8 := Aside0.mk (show (V3.setCell ⟨c7, 3, none⟩ (.bool t3)).heap[c8]? = some (.cells #[.bool t0, .bool t1, .bool t2, .bool t3] 27 (0, 0)) from blk_far F8.out (Ne.symm n_c7_c8) _)
          replace D9 := Aside0.mk (show (V3.setCell ⟨c7, 3, none⟩ (.bool t3)).heap[b9]? = some (.cells #[.int .i64 p0, .int .i64 p1, .int .i64 p2, .int .i64 q3] 25 (0, 0)) from blk_far D9.out (Ne.symm n_c7_b9) _)
          replace F9 := Aside0.mk (show (V3.setCell ⟨c7, 3, none⟩ (.bool t3)).heap[c9]? = some (.cells #[.bool s0, .bool s1, .bool s2, .bool t3] 27 (0, 0)) from blk_far F9.out (Ne.symm n_c7_c9) _)
          replace HBW := Aside0.mk (show Below w.heap.size w (V3.setCell ⟨c7, 3, none⟩ (.bool t3)) from below_set HBW.out hLO.out.2.2.2)
          clear hs hfs hHeld
          generalize V3.setCell ⟨c7, 3, none⟩ (.bool t3) = V4 at D1 D2 D3 D4 D5 D6 D7 F7 D8 F8 D9 F9 HBW ⊢
          refine hK.out _ _ ⟨(blk_cell D2.out 3).trans rfl, (blk_cell D5.out 3).trans rfl, (blk_cell D8.out 3).trans rfl, (blk_cell F8.out 3).trans rfl⟩ (fun hHeld => ?_)
          clear hK K
          refine done_ (done_of HT_.out (by kernel_rfl)) ?_
          go_wp2_with fail
          go_meet
          exact ⟨D1, D3, D4, D6, D7, D9, F7, F9, HBW⟩
        case rest =>
          obtain ⟨ED1, ED3, ED4, ED6, ED7, ED9, EF7, EF9, HBE⟩ := hcut
          clear D1 D2 D3 D4 D5 D6 D7 F7 D8 F8 D9 F9 HBW hNE hLO n_b1_b2 n_b1_b3 n_b1_b4 n_b1_b5 n_b1_b6 n_b1_b7 n_b1_c7 n_b1_b8 n_b1_c8 n_b1_b9 n_b1_c9 n_b4_b1 n_b4_b2 n_b4_b3 n_b4_b5 n_b4_b6 n_b4_b7 n_b4_c7 n_b4_b8 n_b4_c8 n_b4_b9 n_b4_c9 n_b7_b1 n_b7_b2 n_b7_b3 n_b7_b4 n_b7_b5 n_b7_b6 n_b7_c7 n_b7_b8 n_b7_c8 n_b7_b9 n_b7_c9 n_c7_b1 n_c7_b2 n_c7_b3 n_c7_b4 n_c7_b5 n_c7_b6 n_c7_b7 n_c7_b8 n_c7_c8 n_c7_b9 n_c7_c9
          have v_D1_0 : wc.cell? ⟨b1, 0, none⟩ = some (.int .i64 e0) := (blk_cell ED1.out 0).trans rfl
          have v_D1_1 : wc.cell? ⟨b1, 1, none⟩ = some (.int .i64 e1) := (blk_cell ED1.out 1).trans rfl
          have v_D1_2 : wc.cell? ⟨b1, 2, none⟩ = some (.int .i64 e2) := (blk_cell ED1.out 2).trans rfl
          have v_D1_3 : wc.cell? ⟨b1, 3, none⟩ = some (.int .i64 f3) := (blk_cell ED1.out 3).trans rfl
          have v_D3_0 : wc.cell? ⟨b3, 0, none⟩ = some (.int .i64 e0) := (blk_cell ED3.out 0).trans rfl
          have v_D3_1 : wc.cell? ⟨b3, 1, none⟩ = some (.int .i64 e1) := (blk_cell ED3.out 1).trans rfl
          have v_D3_2 : wc.cell? ⟨b3, 2, none⟩ = some (.int .i64 e2) := (blk_cell ED3.out 2).trans rfl
          have v_D3_3 : wc.cell? ⟨b3, 3, none⟩ = some (.int .i64 f3) := (blk_cell ED3.out 3).trans rfl
          have v_D4_0 : wc.cell? ⟨b4, 0, none⟩ = some (.int .i64 x0) := (blk_cell ED4.out 0).trans rfl
          have v_D4_1 : wc.cell? ⟨b4, 1, none⟩ = some (.int .i64 x1) := (blk_cell ED4.out 1).trans rfl
          have v_D4_2 : wc.cell? ⟨b4, 2, none⟩ = some (.int .i64 x2) := (blk_cell ED4.out 2).trans rfl
          have v_D4_3 : wc.cell? ⟨b4, 3, none⟩ = some (.int .i64 y3) := (blk_cell ED4.out 3).trans rfl
          have v_D6_0 : wc.cell? ⟨b6, 0, none⟩ = some (.int .i64 x0) := (blk_cell ED6.out 0).trans rfl
          have v_D6_1 : wc.cell? ⟨b6, 1, none⟩ = some (.int .i64 x1) := (blk_cell ED6.out 1).trans rfl
          have v_D6_2 : wc.cell? ⟨b6, 2, none⟩ = some (.int .i64 x2) := (blk_cell ED6.out 2).trans rfl
          have v_D6_3 : wc.cell? ⟨b6, 3, none⟩ = some (.int .i64 y3) := (blk_cell ED6.out 3).trans rfl
          have v_D7_0 : wc.cell? ⟨b7, 0, none⟩ = some (.int .i64 p0) := (blk_cell ED7.out 0).trans rfl
          have v_D7_1 : wc.cell? ⟨b7, 1, none⟩ = some (.int .i64 p1) := (blk_cell ED7.out 1).trans rfl
          have v_D7_2 : wc.cell? ⟨b7, 2, none⟩ = some (.int .i64 p2) := (blk_cell ED7.out 2).trans rfl
          have v_D7_3 : wc.cell? ⟨b7, 3, none⟩ = some (.int .i64 q3) := (blk_cell ED7.out 3).trans rfl
          have v_D9_0 : wc.cell? ⟨b9, 0, none⟩ = some (.int .i64 p0) := (blk_cell ED9.out 0).trans rfl
          have v_D9_1 : wc.cell? ⟨b9, 1, none⟩ = some (.int .i64 p1) := (blk_cell ED9.out 1).trans rfl
          have v_D9_2 : wc.cell? ⟨b9, 2, none⟩ = some (.int .i64 p2) := (blk_cell ED9.out 2).trans rfl
          have v_D9_3 : wc.cell? ⟨b9, 3, none⟩ = some (.int .i64 q3) := (blk_cell ED9.out 3).trans rfl
          have v_F7_0 : wc.cell? ⟨c7, 0, none⟩ = some (.bool s0) := (blk_cell EF7.out 0).trans rfl
          have v_F7_1 : wc.cell? ⟨c7, 1, none⟩ = some (.bool s1) := (blk_cell EF7.out 1).trans rfl
          have v_F7_2 : wc.cell? ⟨c7, 2, none⟩ = some (.bool s2) := (blk_cell EF7.out 2).trans rfl
          have v_F7_3 : wc.cell? ⟨c7, 3, none⟩ = some (.bool t3) := (blk_cell EF7.out 3).trans rfl
          have v_F9_0 : wc.cell? ⟨c9, 0, none⟩ = some (.bool s0) := (blk_cell EF9.out 0).trans rfl
          have v_F9_1 : wc.cell? ⟨c9, 1, none⟩ = some (.bool s1) := (blk_cell EF9.out 1).trans rfl
          have v_F9_2 : wc.cell? ⟨c9, 2, none⟩ = some (.bool s2) := (blk_cell EF9.out 2).trans rfl
          have v_F9_3 : wc.cell? ⟨c9, 3, none⟩ = some (.bool t3) := (blk_cell EF9.out 3).trans rfl
          go_wp2
          go_ret
          exact ⟨rfl, HBE.out⟩
end Go.Proofs.Ytgagnoijnhhegaa.Px
