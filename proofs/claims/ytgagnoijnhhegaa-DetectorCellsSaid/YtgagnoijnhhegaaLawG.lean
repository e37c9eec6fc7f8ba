/- The law DetectorCells, walked. -/
import Derived.Test.YtgagnoijnhhegaaLawF
import Derived.Deep.DeepCutAuto
import Derived.Deep.CutBlock
import Derived.BigRegion
namespace Go.Proofs.Ytgagnoijnhhegaa.Px
open Go.RowKit Go.Proofs.YtgagnoijnhhegaaW.PrintWords Go.Proofs.YtgagnoijnhhegaaW.PrintLast Go.Proofs.YtgagnoijnhhegaaW.PrintMore
attribute [local go_sem] max2_int min2_int max_two min_two max_three min_three max_four min_four World.size_setCell
attribute [local go_sem high] eqA25 eqM27
set_option linter.unusedVariables false
set_option linter.unusedSimpArgs false
set_option maxRecDepth 100000 in
set_option maxHeartbeats 32000000 in
theorem cells_no (a0_0 a0_1 a0_2 a0_3 a0_4 : Int) (a1_0 a1_1 a1_2 a1_3 : Int) (a2_0 a2_1 a2_2 a2_3 : Int) (a3_0 a3_1 a3_2 a3_3 : Int) (a4_0 a4_1 a4_2 a4_3 : Int) (a5 : Int) (a6_0 a6_1 a6_2 a6_3 : Bool) (a7_0 a7_1 a7_2 a7_3 : Bool) (a8 : Int) (e0 e1 e2 e3 e4 f0 f1 f2 f3 f4 h0_0 h0_1 h0_2 h0_3 h0_4 h1_0 h1_1 h1_2 h1_3 h1_4 h2_0 h2_1 h2_2 h2_3 h2_4 h3_0 h3_1 h3_2 h3_3 h3_4 : Int) (w : World) (h8 : 0 ≤ a8) (h9 : a8 ≤ 255) (hE_ : detector_Expose.f a0_0 a0_1 a0_2 a0_3 a0_4 a1_0 a1_1 a1_2 a1_3 a2_0 a2_1 a2_2 a2_3 a5 a6_0 a6_1 a6_2 a6_3 = some (e0, e1, e2, e3, e4)) (hF_ : detector_Expose.f a0_0 a0_1 a0_2 a0_3 a0_4 a3_0 a3_1 a3_2 a3_3 a4_0 a4_1 a4_2 a4_3 a5 a7_0 a7_1 a7_2 a7_3 = some (f0, f1, f2, f3, f4)) (cc : e4 = 1 ∨ (e4 = 0 ∧ f4 = 1)) (hH0_ : detector_Expose.f a0_0 a0_1 a0_2 a0_3 a0_4 a3_0 a1_1 a1_2 a1_3 a4_0 a2_1 a2_2 a2_3 a5 a7_0 a6_1 a6_2 a6_3 = some (h0_0, h0_1, h0_2, h0_3, h0_4)) (hH1_ : detector_Expose.f a0_0 a0_1 a0_2 a0_3 a0_4 a1_0 a3_1 a1_2 a1_3 a2_0 a4_1 a2_2 a2_3 a5 a6_0 a7_1 a6_2 a6_3 = some (h1_0, h1_1, h1_2, h1_3, h1_4)) (hH2_ : detector_Expose.f a0_0 a0_1 a0_2 a0_3 a0_4 a1_0 a1_1 a3_2 a1_3 a2_0 a2_1 a4_2 a2_3 a5 a6_0 a6_1 a7_2 a6_3 = some (h2_0, h2_1, h2_2, h2_3, h2_4)) (hH3_ : detector_Expose.f a0_0 a0_1 a0_2 a0_3 a0_4 a1_0 a1_1 a1_2 a3_3 a2_0 a2_1 a2_2 a4_3 a5 a6_0 a6_1 a6_2 a7_3 = some (h3_0, h3_1, h3_2, h3_3, h3_4)) :
    Calls Try.prog 6 #[.agg #[.int .i64 a0_0, .int .i64 a0_1, .int .i64 a0_2, .int .i64 a0_3, .int .i64 a0_4], .agg #[.int .i64 a1_0, .int .i64 a1_1, .int .i64 a1_2, .int .i64 a1_3], .agg #[.int .i64 a2_0, .int .i64 a2_1, .int .i64 a2_2, .int .i64 a2_3], .agg #[.int .i64 a3_0, .int .i64 a3_1, .int .i64 a3_2, .int .i64 a3_3], .agg #[.int .i64 a4_0, .int .i64 a4_1, .int .i64 a4_2, .int .i64 a4_3], .int .i64 a5, .agg #[.bool a6_0, .bool a6_1, .bool a6_2, .bool a6_3], .agg #[.bool a7_0, .bool a7_1, .bool a7_2, .bool a7_3], .int .u8 a8] w fun e w' => e = .returned (.bool true) ∧ Below w.heap.size w w' := by
  have hE := Aside0.mk hE_
  clear hE_
  have hF := Aside0.mk hF_
  clear hF_
  have hH0 := Aside0.mk hH0_
  clear hH0_
  have hH1 := Aside0.mk hH1_
  clear hH1_
  have hH2 := Aside0.mk hH2_
  clear hH2_
  have hH3 := Aside0.mk hH3_
  clear hH3_
  have hu23 := Try.underlying23
  have hu25 := Try.underlying25
  have hu27 := Try.underlying27
  go_enter Try.func6, Try.ntmps6
  go_wp2_with fail
  refine (observatorylaw15_head.calls true _ rfl).mono ?_
  rintro e w0 ⟨rfl, hb0⟩
  obtain ⟨hc0, hf0⟩ := bcell hb0
  have z0_0 : w.heap.size < w0.heap.size := by have := hb0.size; (try simp at this); omega
  have z0_1 : w.heap.size + 1 < w0.heap.size := by have := hb0.size; (try simp at this); omega
  have z0_2 : w.heap.size + 1 + 1 < w0.heap.size := by have := hb0.size; (try simp at this); omega
  have z0_3 : w.heap.size + 1 + 1 + 1 < w0.heap.size := by have := hb0.size; (try simp at this); omega
  have z0_4 : w.heap.size + 1 + 1 + 1 + 1 < w0.heap.size := by have := hb0.size; (try simp at this); omega
  have z0_5 : w.heap.size + 1 + 1 + 1 + 1 + 1 < w0.heap.size := by have := hb0.size; (try simp at this); omega
  have z0_6 : w.heap.size + 1 + 1 + 1 + 1 + 1 + 1 < w0.heap.size := by have := hb0.size; (try simp at this); omega
  go_upto_region 3 with (fail)
  go_cut [21, 22, 23] (fun v21 v22 v23 wc => ∃ g1 g2 g3 : Nat, v21 = .pointer (some ⟨g1, 0, none⟩) ∧ v22 = .pointer (some ⟨g2, 0, none⟩) ∧ v23 = .pointer (some ⟨g3, 0, none⟩) ∧ Aside0 (wc.heap[g1]? = some (.cells #[.int .i64 a1_0, .int .i64 a1_1, .int .i64 a1_2, .int .i64 a1_3] 25 (0, 0))) ∧ Aside0 (wc.heap[g2]? = some (.cells #[.int .i64 a2_0, .int .i64 a2_1, .int .i64 a2_2, .int .i64 a2_3] 25 (0, 0))) ∧ Aside0 (wc.heap[g3]? = some (.cells #[.bool a6_0, .bool a6_1, .bool a6_2, .bool a6_3] 27 (0, 0))) ∧ Aside0 (w0.heap.size ≤ g1 ∧ w0.heap.size ≤ g2 ∧ w0.heap.size ≤ g3 ∧ g1 ≠ g2 ∧ g1 ≠ g3 ∧ g2 ≠ g3) ∧ Aside0 (Below w0.heap.size w0 wc))
  case first =>
    go_region
    all_goals
      go_wp2_with fail
      go_meet
      exact ⟨_, _, _, rfl, rfl, rfl, ⟨by first | exact (three_blk _ _ _ _).1 | exact (three_blk _ _ _ _).2.1 | exact (three_blk _ _ _ _).2.2⟩, ⟨by first | exact (three_blk _ _ _ _).1 | exact (three_blk _ _ _ _).2.1 | exact (three_blk _ _ _ _).2.2⟩, ⟨by first | exact (three_blk _ _ _ _).1 | exact (three_blk _ _ _ _).2.1 | exact (three_blk _ _ _ _).2.2⟩, ⟨by omega⟩, ⟨below_drew1 (below_alloc (below_alloc (below_alloc (Below.refl _ _) _) _) _)⟩⟩
  case rest =>
    obtain ⟨g1, g2, g3, rfl, rfl, rfl, B1, B2, B3, G, HBc⟩ := hcut
    obtain ⟨wk, rfl⟩ : ∃ wk, wk = wc := ⟨_, rfl⟩
    obtain ⟨hcc, hfc⟩ := bcell HBc.out
    have zg1 := blk_lt B1.out
    have zg2 := blk_lt B2.out
    have zg3 := blk_lt B3.out
    have zk_0 : w.heap.size < wk.heap.size := by have := HBc.out.size; omega
    have zk_1 : w.heap.size + 1 < wk.heap.size := by have := HBc.out.size; omega
    have zk_2 : w.heap.size + 1 + 1 < wk.heap.size := by have := HBc.out.size; omega
    have zk_3 : w.heap.size + 1 + 1 + 1 < wk.heap.size := by have := HBc.out.size; omega
    have zk_4 : w.heap.size + 1 + 1 + 1 + 1 < wk.heap.size := by have := HBc.out.size; omega
    have zk_5 : w.heap.size + 1 + 1 + 1 + 1 + 1 < wk.heap.size := by have := HBc.out.size; omega
    have zk_6 : w.heap.size + 1 + 1 + 1 + 1 + 1 + 1 < wk.heap.size := by have := HBc.out.size; omega
    have hk4 : a8 % 4 = 0 ∨ a8 % 4 = 1 ∨ a8 % 4 = 2 ∨ a8 % 4 = 3 := by omega
    rcases hk4 with hk | hk | hk | hk
    · rw [hk]
      clear hk
      have b1_0 : wk.cell? ⟨g1, 0, none⟩ = some (.int .i64 a1_0) := (blk_cell B1.out 0).trans rfl
      have f1_0 : wk.frozen? ⟨g1, 0, none⟩ = false := blk_frozen B1.out 0
      have b2_0 : wk.cell? ⟨g2, 0, none⟩ = some (.int .i64 a2_0) := (blk_cell B2.out 0).trans rfl
      have f2_0 : wk.frozen? ⟨g2, 0, none⟩ = false := blk_frozen B2.out 0
      have b3_0 : wk.cell? ⟨g3, 0, none⟩ = some (.bool a6_0) := (blk_cell B3.out 0).trans rfl
      have f3_0 : wk.frozen? ⟨g3, 0, none⟩ = false := blk_frozen B3.out 0
      obtain ⟨G1, G2, G3, G4, G5, G6⟩ := G.out
      go_upto_region 4 with (fail)
      go_cut [] (fun wd => Aside0 (wd.heap[g1]? = some (.cells #[.int .i64 a3_0, .int .i64 a1_1, .int .i64 a1_2, .int .i64 a1_3] 25 (0, 0))) ∧ Aside0 (wd.heap[g2]? = some (.cells #[.int .i64 a4_0, .int .i64 a2_1, .int .i64 a2_2, .int .i64 a2_3] 25 (0, 0))) ∧ Aside0 (wd.heap[g3]? = some (.cells #[.bool a7_0, .bool a6_1, .bool a6_2, .bool a6_3] 27 (0, 0))) ∧ Aside0 (Below w0.heap.size w0 wd))
      case first =>
        go_region
        go_wp2_with fail
        go_meet
        exact ⟨⟨blk_drew (blk_far (blk_far (blk_put B1.out 0 _ rfl) G4 _) G5 _)⟩, ⟨blk_drew (blk_far (blk_put (blk_far B2.out (Ne.symm G4) _) 0 _ rfl) G6 _)⟩, ⟨blk_drew (blk_put (blk_far (blk_far B3.out (Ne.symm G5) _) (Ne.symm G6) _) 0 _ rfl)⟩, ⟨below_drew1 (below_set (below_set (below_set HBc.out G1) G2) G3)⟩⟩
      case rest =>
        obtain ⟨C1, C2, C3, HBd⟩ := hcut
        clear b1_0 b2_0 b3_0 f1_0 f2_0 f3_0 hcc hfc zg1 zg2 zg3 zk_0 zk_1 zk_2 zk_3 zk_4 zk_5 zk_6 B1 B2 B3 HBc G
        obtain ⟨hcd, hfd⟩ := bcell HBd.out
        have zd1 := blk_lt C1.out
        have zd2 := blk_lt C2.out
        have zd3 := blk_lt C3.out
        have zd_0 : w.heap.size < wc.heap.size := by have := HBd.out.size; omega
        have zd_1 : w.heap.size + 1 < wc.heap.size := by have := HBd.out.size; omega
        have zd_2 : w.heap.size + 1 + 1 < wc.heap.size := by have := HBd.out.size; omega
        have zd_3 : w.heap.size + 1 + 1 + 1 < wc.heap.size := by have := HBd.out.size; omega
        have zd_4 : w.heap.size + 1 + 1 + 1 + 1 < wc.heap.size := by have := HBd.out.size; omega
        have zd_5 : w.heap.size + 1 + 1 + 1 + 1 + 1 < wc.heap.size := by have := HBd.out.size; omega
        have zd_6 : w.heap.size + 1 + 1 + 1 + 1 + 1 + 1 < wc.heap.size := by have := HBd.out.size; omega
        have c1_0 : wc.cell? ⟨g1, 0, none⟩ = some (.int .i64 a3_0) := (blk_cell C1.out 0).trans rfl
        have c1_1 : wc.cell? ⟨g1, 1, none⟩ = some (.int .i64 a1_1) := (blk_cell C1.out 1).trans rfl
        have c1_2 : wc.cell? ⟨g1, 2, none⟩ = some (.int .i64 a1_2) := (blk_cell C1.out 2).trans rfl
        have c1_3 : wc.cell? ⟨g1, 3, none⟩ = some (.int .i64 a1_3) := (blk_cell C1.out 3).trans rfl
        have c2_0 : wc.cell? ⟨g2, 0, none⟩ = some (.int .i64 a4_0) := (blk_cell C2.out 0).trans rfl
        have c2_1 : wc.cell? ⟨g2, 1, none⟩ = some (.int .i64 a2_1) := (blk_cell C2.out 1).trans rfl
        have c2_2 : wc.cell? ⟨g2, 2, none⟩ = some (.int .i64 a2_2) := (blk_cell C2.out 2).trans rfl
        have c2_3 : wc.cell? ⟨g2, 3, none⟩ = some (.int .i64 a2_3) := (blk_cell C2.out 3).trans rfl
        have c3_0 : wc.cell? ⟨g3, 0, none⟩ = some (.bool a7_0) := (blk_cell C3.out 0).trans rfl
        have c3_1 : wc.cell? ⟨g3, 1, none⟩ = some (.bool a6_1) := (blk_cell C3.out 1).trans rfl
        have c3_2 : wc.cell? ⟨g3, 2, none⟩ = some (.bool a6_2) := (blk_cell C3.out 2).trans rfl
        have c3_3 : wc.cell? ⟨g3, 3, none⟩ = some (.bool a6_3) := (blk_cell C3.out 3).trans rfl
        go_wp2_with fail
        refine (detector_Expose.calls a0_0 a0_1 a0_2 a0_3 a0_4 a1_0 a1_1 a1_2 a1_3 a2_0 a2_1 a2_2 a2_3 a5 a6_0 a6_1 a6_2 a6_3 e0 e1 e2 e3 e4 _ hE.out).mono ?_
        rintro e w1 ⟨rfl, hb1⟩
        obtain ⟨hc1, hf1⟩ := bcell hb1
        have z1_0 : w.heap.size < w1.heap.size := by have := hb1.size; (try simp at this); omega
        have z1_1 : w.heap.size + 1 < w1.heap.size := by have := hb1.size; (try simp at this); omega
        have z1_2 : w.heap.size + 1 + 1 < w1.heap.size := by have := hb1.size; (try simp at this); omega
        have z1_3 : w.heap.size + 1 + 1 + 1 < w1.heap.size := by have := hb1.size; (try simp at this); omega
        have z1_4 : w.heap.size + 1 + 1 + 1 + 1 < w1.heap.size := by have := hb1.size; (try simp at this); omega
        have z1_5 : w.heap.size + 1 + 1 + 1 + 1 + 1 < w1.heap.size := by have := hb1.size; (try simp at this); omega
        have z1_6 : w.heap.size + 1 + 1 + 1 + 1 + 1 + 1 < w1.heap.size := by have := hb1.size; (try simp at this); omega
        have z1_7 : g1 < w1.heap.size := by have := hb1.size; (try simp at this); omega
        have z1_8 : g2 < w1.heap.size := by have := hb1.size; (try simp at this); omega
        have z1_9 : g3 < w1.heap.size := by have := hb1.size; (try simp at this); omega
        go_wp2_with fail
        refine (detector_Expose.calls a0_0 a0_1 a0_2 a0_3 a0_4 a3_0 a3_1 a3_2 a3_3 a4_0 a4_1 a4_2 a4_3 a5 a7_0 a7_1 a7_2 a7_3 f0 f1 f2 f3 f4 _ hF.out).mono ?_
        rintro e w2 ⟨rfl, hb2⟩
        obtain ⟨hc2, hf2⟩ := bcell hb2
        have z2_0 : w.heap.size < w2.heap.size := by have := hb2.size; (try simp at this); omega
        have z2_1 : w.heap.size + 1 < w2.heap.size := by have := hb2.size; (try simp at this); omega
        have z2_2 : w.heap.size + 1 + 1 < w2.heap.size := by have := hb2.size; (try simp at this); omega
        have z2_3 : w.heap.size + 1 + 1 + 1 < w2.heap.size := by have := hb2.size; (try simp at this); omega
        have z2_4 : w.heap.size + 1 + 1 + 1 + 1 < w2.heap.size := by have := hb2.size; (try simp at this); omega
        have z2_5 : w.heap.size + 1 + 1 + 1 + 1 + 1 < w2.heap.size := by have := hb2.size; (try simp at this); omega
        have z2_6 : w.heap.size + 1 + 1 + 1 + 1 + 1 + 1 < w2.heap.size := by have := hb2.size; (try simp at this); omega
        have z2_7 : g1 < w2.heap.size := by have := hb2.size; (try simp at this); omega
        have z2_8 : g2 < w2.heap.size := by have := hb2.size; (try simp at this); omega
        have z2_9 : g3 < w2.heap.size := by have := hb2.size; (try simp at this); omega
        have z2_10 : w1.heap.size < w2.heap.size := by have := hb2.size; (try simp at this); omega
        go_wp2_with fail
        refine (detector_Expose.calls a0_0 a0_1 a0_2 a0_3 a0_4 a3_0 a1_1 a1_2 a1_3 a4_0 a2_1 a2_2 a2_3 a5 a7_0 a6_1 a6_2 a6_3 h0_0 h0_1 h0_2 h0_3 h0_4 _ hH0.out).mono ?_
        rintro e w3 ⟨rfl, hb3⟩
        obtain ⟨hc3, hf3⟩ := bcell hb3
        have z3_0 : w.heap.size < w3.heap.size := by have := hb3.size; (try simp at this); omega
        have z3_1 : w.heap.size + 1 < w3.heap.size := by have := hb3.size; (try simp at this); omega
        have z3_2 : w.heap.size + 1 + 1 < w3.heap.size := by have := hb3.size; (try simp at this); omega
        have z3_3 : w.heap.size + 1 + 1 + 1 < w3.heap.size := by have := hb3.size; (try simp at this); omega
        have z3_4 : w.heap.size + 1 + 1 + 1 + 1 < w3.heap.size := by have := hb3.size; (try simp at this); omega
        have z3_5 : w.heap.size + 1 + 1 + 1 + 1 + 1 < w3.heap.size := by have := hb3.size; (try simp at this); omega
        have z3_6 : w.heap.size + 1 + 1 + 1 + 1 + 1 + 1 < w3.heap.size := by have := hb3.size; (try simp at this); omega
        have z3_7 : g1 < w3.heap.size := by have := hb3.size; (try simp at this); omega
        have z3_8 : g2 < w3.heap.size := by have := hb3.size; (try simp at this); omega
        have z3_9 : g3 < w3.heap.size := by have := hb3.size; (try simp at this); omega
        have z3_10 : w1.heap.size < w3.heap.size := by have := hb3.size; (try simp at this); omega
        have z3_11 : w2.heap.size < w3.heap.size := by have := hb3.size; (try simp at this); omega
        rcases cc with rfl | ⟨rfl, rfl⟩
        all_goals
          go_wp2
          go_ret
          exact ⟨rfl, by repeat (with_reducible first | exact Below.refl _ _ | (refine below_set ?_ (by first | omega | exact Nat.le_refl _)) | apply below_alloc | apply pw_below_drewN | apply below_drew1 | refine below_step ?_ hb3 | refine below_step ?_ hb2 | refine below_step ?_ hb1 | exact below_step (by repeat (with_reducible first | exact Below.refl _ _ | apply below_alloc | refine below_step ?_ hb0)) HBd.out)⟩
    · rw [hk]
      clear hk
      have b1_1 : wk.cell? ⟨g1, 1, none⟩ = some (.int .i64 a1_1) := (blk_cell B1.out 1).trans rfl
      have f1_1 : wk.frozen? ⟨g1, 1, none⟩ = false := blk_frozen B1.out 1
      have b2_1 : wk.cell? ⟨g2, 1, none⟩ = some (.int .i64 a2_1) := (blk_cell B2.out 1).trans rfl
      have f2_1 : wk.frozen? ⟨g2, 1, none⟩ = false := blk_frozen B2.out 1
      have b3_1 : wk.cell? ⟨g3, 1, none⟩ = some (.bool a6_1) := (blk_cell B3.out 1).trans rfl
      have f3_1 : wk.frozen? ⟨g3, 1, none⟩ = false := blk_frozen B3.out 1
      obtain ⟨G1, G2, G3, G4, G5, G6⟩ := G.out
      go_upto_region 4 with (fail)
      go_cut [] (fun wd => Aside0 (wd.heap[g1]? = some (.cells #[.int .i64 a1_0, .int .i64 a3_1, .int .i64 a1_2, .int .i64 a1_3] 25 (0, 0))) ∧ Aside0 (wd.heap[g2]? = some (.cells #[.int .i64 a2_0, .int .i64 a4_1, .int .i64 a2_2, .int .i64 a2_3] 25 (0, 0))) ∧ Aside0 (wd.heap[g3]? = some (.cells #[.bool a6_0, .bool a7_1, .bool a6_2, .bool a6_3] 27 (0, 0))) ∧ Aside0 (Below w0.heap.size w0 wd))
      case first =>
        go_region
        go_wp2_with fail
        go_meet
        exact ⟨⟨blk_drew (blk_far (blk_far (blk_put B1.out 1 _ rfl) G4 _) G5 _)⟩, ⟨blk_drew (blk_far (blk_put (blk_far B2.out (Ne.symm G4) _) 1 _ rfl) G6 _)⟩, ⟨blk_drew (blk_put (blk_far (blk_far B3.out (Ne.symm G5) _) (Ne.symm G6) _) 1 _ rfl)⟩, ⟨below_drew1 (below_set (below_set (below_set HBc.out G1) G2) G3)⟩⟩
      case rest =>
        obtain ⟨C1, C2, C3, HBd⟩ := hcut
        clear b1_1 b2_1 b3_1 f1_1 f2_1 f3_1 hcc hfc zg1 zg2 zg3 zk_0 zk_1 zk_2 zk_3 zk_4 zk_5 zk_6 B1 B2 B3 HBc G
        obtain ⟨hcd, hfd⟩ := bcell HBd.out
        have zd1 := blk_lt C1.out
        have zd2 := blk_lt C2.out
        have zd3 := blk_lt C3.out
        have zd_0 : w.heap.size < wc.heap.size := by have := HBd.out.size; omega
        have zd_1 : w.heap.size + 1 < wc.heap.size := by have := HBd.out.size; omega
        have zd_2 : w.heap.size + 1 + 1 < wc.heap.size := by have := HBd.out.size; omega
        have zd_3 : w.heap.size + 1 + 1 + 1 < wc.heap.size := by have := HBd.out.size; omega
        have zd_4 : w.heap.size + 1 + 1 + 1 + 1 < wc.heap.size := by have := HBd.out.size; omega
        have zd_5 : w.heap.size + 1 + 1 + 1 + 1 + 1 < wc.heap.size := by have := HBd.out.size; omega
        have zd_6 : w.heap.size + 1 + 1 + 1 + 1 + 1 + 1 < wc.heap.size := by have := HBd.out.size; omega
        have c1_0 : wc.cell? ⟨g1, 0, none⟩ = some (.int .i64 a1_0) := (blk_cell C1.out 0).trans rfl
        have c1_1 : wc.cell? ⟨g1, 1, none⟩ = some (.int .i64 a3_1) := (blk_cell C1.out 1).trans rfl
        have c1_2 : wc.cell? ⟨g1, 2, none⟩ = some (.int .i64 a1_2) := (blk_cell C1.out 2).trans rfl
        have c1_3 : wc.cell? ⟨g1, 3, none⟩ = some (.int .i64 a1_3) := (blk_cell C1.out 3).trans rfl
        have c2_0 : wc.cell? ⟨g2, 0, none⟩ = some (.int .i64 a2_0) := (blk_cell C2.out 0).trans rfl
        have c2_1 : wc.cell? ⟨g2, 1, none⟩ = some (.int .i64 a4_1) := (blk_cell C2.out 1).trans rfl
        have c2_2 : wc.cell? ⟨g2, 2, none⟩ = some (.int .i64 a2_2) := (blk_cell C2.out 2).trans rfl
        have c2_3 : wc.cell? ⟨g2, 3, none⟩ = some (.int .i64 a2_3) := (blk_cell C2.out 3).trans rfl
        have c3_0 : wc.cell? ⟨g3, 0, none⟩ = some (.bool a6_0) := (blk_cell C3.out 0).trans rfl
        have c3_1 : wc.cell? ⟨g3, 1, none⟩ = some (.bool a7_1) := (blk_cell C3.out 1).trans rfl
        have c3_2 : wc.cell? ⟨g3, 2, none⟩ = some (.bool a6_2) := (blk_cell C3.out 2).trans rfl
        have c3_3 : wc.cell? ⟨g3, 3, none⟩ = some (.bool a6_3) := (blk_cell C3.out 3).trans rfl
        go_wp2_with fail
        refine (detector_Expose.calls a0_0 a0_1 a0_2 a0_3 a0_4 a1_0 a1_1 a1_2 a1_3 a2_0 a2_1 a2_2 a2_3 a5 a6_0 a6_1 a6_2 a6_3 e0 e1 e2 e3 e4 _ hE.out).mono ?_
        rintro e w1 ⟨rfl, hb1⟩
        obtain ⟨hc1, hf1⟩ := bcell hb1
        have z1_0 : w.heap.size < w1.heap.size := by have := hb1.size; (try simp at this); omega
        have z1_1 : w.heap.size + 1 < w1.heap.size := by have := hb1.size; (try simp at this); omega
        have z1_2 : w.heap.size + 1 + 1 < w1.heap.size := by have := hb1.size; (try simp at this); omega
        have z1_3 : w.heap.size + 1 + 1 + 1 < w1.heap.size := by have := hb1.size; (try simp at this); omega
        have z1_4 : w.heap.size + 1 + 1 + 1 + 1 < w1.heap.size := by have := hb1.size; (try simp at this); omega
        have z1_5 : w.heap.size + 1 + 1 + 1 + 1 + 1 < w1.heap.size := by have := hb1.size; (try simp at this); omega
        have z1_6 : w.heap.size + 1 + 1 + 1 + 1 + 1 + 1 < w1.heap.size := by have := hb1.size; (try simp at this); omega
        have z1_7 : g1 < w1.heap.size := by have := hb1.size; (try simp at this); omega
        have z1_8 : g2 < w1.heap.size := by have := hb1.size; (try simp at this); omega
        have z1_9 : g3 < w1.heap.size := by have := hb1.size; (try simp at this); omega
        go_wp2_with fail
        refine (detector_Expose.calls a0_0 a0_1 a0_2 a0_3 a0_4 a3_0 a3_1 a3_2 a3_3 a4_0 a4_1 a4_2 a4_3 a5 a7_0 a7_1 a7_2 a7_3 f0 f1 f2 f3 f4 _ hF.out).mono ?_
        rintro e w2 ⟨rfl, hb2⟩
        obtain ⟨hc2, hf2⟩ := bcell hb2
        have z2_0 : w.heap.size < w2.heap.size := by have := hb2.size; (try simp at this); omega
        have z2_1 : w.heap.size + 1 < w2.heap.size := by have := hb2.size; (try simp at this); omega
        have z2_2 : w.heap.size + 1 + 1 < w2.heap.size := by have := hb2.size; (try simp at this); omega
        have z2_3 : w.heap.size + 1 + 1 + 1 < w2.heap.size := by have := hb2.size; (try simp at this); omega
        have z2_4 : w.heap.size + 1 + 1 + 1 + 1 < w2.heap.size := by have := hb2.size; (try simp at this); omega
        have z2_5 : w.heap.size + 1 + 1 + 1 + 1 + 1 < w2.heap.size := by have := hb2.size; (try simp at this); omega
        have z2_6 : w.heap.size + 1 + 1 + 1 + 1 + 1 + 1 < w2.heap.size := by have := hb2.size; (try simp at this); omega
        have z2_7 : g1 < w2.heap.size := by have := hb2.size; (try simp at this); omega
        have z2_8 : g2 < w2.heap.size := by have := hb2.size; (try simp at this); omega
        have z2_9 : g3 < w2.heap.size := by have := hb2.size; (try simp at this); omega
        have z2_10 : w1.heap.size < w2.heap.size := by have := hb2.size; (try simp at this); omega
        go_wp2_with fail
        refine (detector_Expose.calls a0_0 a0_1 a0_2 a0_3 a0_4 a1_0 a3_1 a1_2 a1_3 a2_0 a4_1 a2_2 a2_3 a5 a6_0 a7_1 a6_2 a6_3 h1_0 h1_1 h1_2 h1_3 h1_4 _ hH1.out).mono ?_
        rintro e w3 ⟨rfl, hb3⟩
        obtain ⟨hc3, hf3⟩ := bcell hb3
        have z3_0 : w.heap.size < w3.heap.size := by have := hb3.size; (try simp at this); omega
        have z3_1 : w.heap.size + 1 < w3.heap.size := by have := hb3.size; (try simp at this); omega
        have z3_2 : w.heap.size + 1 + 1 < w3.heap.size := by have := hb3.size; (try simp at this); omega
        have z3_3 : w.heap.size + 1 + 1 + 1 < w3.heap.size := by have := hb3.size; (try simp at this); omega
        have z3_4 : w.heap.size + 1 + 1 + 1 + 1 < w3.heap.size := by have := hb3.size; (try simp at this); omega
        have z3_5 : w.heap.size + 1 + 1 + 1 + 1 + 1 < w3.heap.size := by have := hb3.size; (try simp at this); omega
        have z3_6 : w.heap.size + 1 + 1 + 1 + 1 + 1 + 1 < w3.heap.size := by have := hb3.size; (try simp at this); omega
        have z3_7 : g1 < w3.heap.size := by have := hb3.size; (try simp at this); omega
        have z3_8 : g2 < w3.heap.size := by have := hb3.size; (try simp at this); omega
        have z3_9 : g3 < w3.heap.size := by have := hb3.size; (try simp at this); omega
        have z3_10 : w1.heap.size < w3.heap.size := by have := hb3.size; (try simp at this); omega
        have z3_11 : w2.heap.size < w3.heap.size := by have := hb3.size; (try simp at this); omega
        rcases cc with rfl | ⟨rfl, rfl⟩
        all_goals
          go_wp2
          go_ret
          exact ⟨rfl, by repeat (with_reducible first | exact Below.refl _ _ | (refine below_set ?_ (by first | omega | exact Nat.le_refl _)) | apply below_alloc | apply pw_below_drewN | apply below_drew1 | refine below_step ?_ hb3 | refine below_step ?_ hb2 | refine below_step ?_ hb1 | exact below_step (by repeat (with_reducible first | exact Below.refl _ _ | apply below_alloc | refine below_step ?_ hb0)) HBd.out)⟩
    · rw [hk]
      clear hk
      have b1_2 : wk.cell? ⟨g1, 2, none⟩ = some (.int .i64 a1_2) := (blk_cell B1.out 2).trans rfl
      have f1_2 : wk.frozen? ⟨g1, 2, none⟩ = false := blk_frozen B1.out 2
      have b2_2 : wk.cell? ⟨g2, 2, none⟩ = some (.int .i64 a2_2) := (blk_cell B2.out 2).trans rfl
      have f2_2 : wk.frozen? ⟨g2, 2, none⟩ = false := blk_frozen B2.out 2
      have b3_2 : wk.cell? ⟨g3, 2, none⟩ = some (.bool a6_2) := (blk_cell B3.out 2).trans rfl
      have f3_2 : wk.frozen? ⟨g3, 2, none⟩ = false := blk_frozen B3.out 2
      obtain ⟨G1, G2, G3, G4, G5, G6⟩ := G.out
      go_upto_region 4 with (fail)
      go_cut [] (fun wd => Aside0 (wd.heap[g1]? = some (.cells #[.int .i64 a1_0, .int .i64 a1_1, .int .i64 a3_2, .int .i64 a1_3] 25 (0, 0))) ∧ Aside0 (wd.heap[g2]? = some (.cells #[.int .i64 a2_0, .int .i64 a2_1, .int .i64 a4_2, .int .i64 a2_3] 25 (0, 0))) ∧ Aside0 (wd.heap[g3]? = some (.cells #[.bool a6_0, .bool a6_1, .bool a7_2, .bool a6_3] 27 (0, 0))) ∧ Aside0 (Below w0.heap.size w0 wd))
      case first =>
        go_region
        go_wp2_with fail
        go_meet
        exact ⟨⟨blk_drew (blk_far (blk_far (blk_put B1.out 2 _ rfl) G4 _) G5 _)⟩, ⟨blk_drew (blk_far (blk_put (blk_far B2.out (Ne.symm G4) _) 2 _ rfl) G6 _)⟩, ⟨blk_drew (blk_put (blk_far (blk_far B3.out (Ne.symm G5) _) (Ne.symm G6) _) 2 _ rfl)⟩, ⟨below_drew1 (below_set (below_set (below_set HBc.out G1) G2) G3)⟩⟩
      case rest =>
        obtain ⟨C1, C2, C3, HBd⟩ := hcut
        clear b1_2 b2_2 b3_2 f1_2 f2_2 f3_2 hcc hfc zg1 zg2 zg3 zk_0 zk_1 zk_2 zk_3 zk_4 zk_5 zk_6 B1 B2 B3 HBc G
        obtain ⟨hcd, hfd⟩ := bcell HBd.out
        have zd1 := blk_lt C1.out
        have zd2 := blk_lt C2.out
        have zd3 := blk_lt C3.out
        have zd_0 : w.heap.size < wc.heap.size := by have := HBd.out.size; omega
        have zd_1 : w.heap.size + 1 < wc.heap.size := by have := HBd.out.size; omega
        have zd_2 : w.heap.size + 1 + 1 < wc.heap.size := by have := HBd.out.size; omega
        have zd_3 : w.heap.size + 1 + 1 + 1 < wc.heap.size := by have := HBd.out.size; omega
        have zd_4 : w.heap.size + 1 + 1 + 1 + 1 < wc.heap.size := by have := HBd.out.size; omega
        have zd_5 : w.heap.size + 1 + 1 + 1 + 1 + 1 < wc.heap.size := by have := HBd.out.size; omega
        have zd_6 : w.heap.size + 1 + 1 + 1 + 1 + 1 + 1 < wc.heap.size := by have := HBd.out.size; omega
        have c1_0 : wc.cell? ⟨g1, 0, none⟩ = some (.int .i64 a1_0) := (blk_cell C1.out 0).trans rfl
        have c1_1 : wc.cell? ⟨g1, 1, none⟩ = some (.int .i64 a1_1) := (blk_cell C1.out 1).trans rfl
        have c1_2 : wc.cell? ⟨g1, 2, none⟩ = some (.int .i64 a3_2) := (blk_cell C1.out 2).trans rfl
        have c1_3 : wc.cell? ⟨g1, 3, none⟩ = some (.int .i64 a1_3) := (blk_cell C1.out 3).trans rfl
        have c2_0 : wc.cell? ⟨g2, 0, none⟩ = some (.int .i64 a2_0) := (blk_cell C2.out 0).trans rfl
        have c2_1 : wc.cell? ⟨g2, 1, none⟩ = some (.int .i64 a2_1) := (blk_cell C2.out 1).trans rfl
        have c2_2 : wc.cell? ⟨g2, 2, none⟩ = some (.int .i64 a4_2) := (blk_cell C2.out 2).trans rfl
        have c2_3 : wc.cell? ⟨g2, 3, none⟩ = some (.int .i64 a2_3) := (blk_cell C2.out 3).trans rfl
        have c3_0 : wc.cell? ⟨g3, 0, none⟩ = some (.bool a6_0) := (blk_cell C3.out 0).trans rfl
        have c3_1 : wc.cell? ⟨g3, 1, none⟩ = some (.bool a6_1) := (blk_cell C3.out 1).trans rfl
        have c3_2 : wc.cell? ⟨g3, 2, none⟩ = some (.bool a7_2) := (blk_cell C3.out 2).trans rfl
        have c3_3 : wc.cell? ⟨g3, 3, none⟩ = some (.bool a6_3) := (blk_cell C3.out 3).trans rfl
        go_wp2_with fail
        refine (detector_Expose.calls a0_0 a0_1 a0_2 a0_3 a0_4 a1_0 a1_1 a1_2 a1_3 a2_0 a2_1 a2_2 a2_3 a5 a6_0 a6_1 a6_2 a6_3 e0 e1 e2 e3 e4 _ hE.out).mono ?_
        rintro e w1 ⟨rfl, hb1⟩
        obtain ⟨hc1, hf1⟩ := bcell hb1
        have z1_0 : w.heap.size < w1.heap.size := by have := hb1.size; (try simp at this); omega
        have z1_1 : w.heap.size + 1 < w1.heap.size := by have := hb1.size; (try simp at this); omega
        have z1_2 : w.heap.size + 1 + 1 < w1.heap.size := by have := hb1.size; (try simp at this); omega
        have z1_3 : w.heap.size + 1 + 1 + 1 < w1.heap.size := by have := hb1.size; (try simp at this); omega
        have z1_4 : w.heap.size + 1 + 1 + 1 + 1 < w1.heap.size := by have := hb1.size; (try simp at this); omega
        have z1_5 : w.heap.size + 1 + 1 + 1 + 1 + 1 < w1.heap.size := by have := hb1.size; (try simp at this); omega
        have z1_6 : w.heap.size + 1 + 1 + 1 + 1 + 1 + 1 < w1.heap.size := by have := hb1.size; (try simp at this); omega
        have z1_7 : g1 < w1.heap.size := by have := hb1.size; (try simp at this); omega
        have z1_8 : g2 < w1.heap.size := by have := hb1.size; (try simp at this); omega
        have z1_9 : g3 < w1.heap.size := by have := hb1.size; (try simp at this); omega
        go_wp2_with fail
        refine (detector_Expose.calls a0_0 a0_1 a0_2 a0_3 a0_4 a3_0 a3_1 a3_2 a3_3 a4_0 a4_1 a4_2 a4_3 a5 a7_0 a7_1 a7_2 a7_3 f0 f1 f2 f3 f4 _ hF.out).mono ?_
        rintro e w2 ⟨rfl, hb2⟩
        obtain ⟨hc2, hf2⟩ := bcell hb2
        have z2_0 : w.heap.size < w2.heap.size := by have := hb2.size; (try simp at this); omega
        have z2_1 : w.heap.size + 1 < w2.heap.size := by have := hb2.size; (try simp at this); omega
        have z2_2 : w.heap.size + 1 + 1 < w2.heap.size := by have := hb2.size; (try simp at this); omega
        have z2_3 : w.heap.size + 1 + 1 + 1 < w2.heap.size := by have := hb2.size; (try simp at this); omega
        have z2_4 : w.heap.size + 1 + 1 + 1 + 1 < w2.heap.size := by have := hb2.size; (try simp at this); omega
        have z2_5 : w.heap.size + 1 + 1 + 1 + 1 + 1 < w2.heap.size := by have := hb2.size; (try simp at this); omega
        have z2_6 : w.heap.size + 1 + 1 + 1 + 1 + 1 + 1 < w2.heap.size := by have := hb2.size; (try simp at this); omega
        have z2_7 : g1 < w2.heap.size := by have := hb2.size; (try simp at this); omega
        have z2_8 : g2 < w2.heap.size := by have := hb2.size; (try simp at this); omega
        have z2_9 : g3 < w2.heap.size := by have := hb2.size; (try simp at this); omega
        have z2_10 : w1.heap.size < w2.heap.size := by have := hb2.size; (try simp at this); omega
        go_wp2_with fail
        refine (detector_Expose.calls a0_0 a0_1 a0_2 a0_3 a0_4 a1_0 a1_1 a3_2 a1_3 a2_0 a2_1 a4_2 a2_3 a5 a6_0 a6_1 a7_2 a6_3 h2_0 h2_1 h2_2 h2_3 h2_4 _ hH2.out).mono ?_
        rintro e w3 ⟨rfl, hb3⟩
        obtain ⟨hc3, hf3⟩ := bcell hb3
        have z3_0 : w.heap.size < w3.heap.size := by have := hb3.size; (try simp at this); omega
        have z3_1 : w.heap.size + 1 < w3.heap.size := by have := hb3.size; (try simp at this); omega
        have z3_2 : w.heap.size + 1 + 1 < w3.heap.size := by have := hb3.size; (try simp at this); omega
        have z3_3 : w.heap.size + 1 + 1 + 1 < w3.heap.size := by have := hb3.size; (try simp at this); omega
        have z3_4 : w.heap.size + 1 + 1 + 1 + 1 < w3.heap.size := by have := hb3.size; (try simp at this); omega
        have z3_5 : w.heap.size + 1 + 1 + 1 + 1 + 1 < w3.heap.size := by have := hb3.size; (try simp at this); omega
        have z3_6 : w.heap.size + 1 + 1 + 1 + 1 + 1 + 1 < w3.heap.size := by have := hb3.size; (try simp at this); omega
        have z3_7 : g1 < w3.heap.size := by have := hb3.size; (try simp at this); omega
        have z3_8 : g2 < w3.heap.size := by have := hb3.size; (try simp at this); omega
        have z3_9 : g3 < w3.heap.size := by have := hb3.size; (try simp at this); omega
        have z3_10 : w1.heap.size < w3.heap.size := by have := hb3.size; (try simp at this); omega
        have z3_11 : w2.heap.size < w3.heap.size := by have := hb3.size; (try simp at this); omega
        rcases cc with rfl | ⟨rfl, rfl⟩
        all_goals
          go_wp2
          go_ret
          exact ⟨rfl, by repeat (with_reducible first | exact Below.refl _ _ | (refine below_set ?_ (by first | omega | exact Nat.le_refl _)) | apply below_alloc | apply pw_below_drewN | apply below_drew1 | refine below_step ?_ hb3 | refine below_step ?_ hb2 | refine below_step ?_ hb1 | exact below_step (by repeat (with_reducible first | exact Below.refl _ _ | apply below_alloc | refine below_step ?_ hb0)) HBd.out)⟩
    · rw [hk]
      clear hk
      have b1_3 : wk.cell? ⟨g1, 3, none⟩ = some (.int .i64 a1_3) := (blk_cell B1.out 3).trans rfl
      have f1_3 : wk.frozen? ⟨g1, 3, none⟩ = false := blk_frozen B1.out 3
      have b2_3 : wk.cell? ⟨g2, 3, none⟩ = some (.int .i64 a2_3) := (blk_cell B2.out 3).trans rfl
      have f2_3 : wk.frozen? ⟨g2, 3, none⟩ = false := blk_frozen B2.out 3
      have b3_3 : wk.cell? ⟨g3, 3, none⟩ = some (.bool a6_3) := (blk_cell B3.out 3).trans rfl
      have f3_3 : wk.frozen? ⟨g3, 3, none⟩ = false := blk_frozen B3.out 3
      obtain ⟨G1, G2, G3, G4, G5, G6⟩ := G.out
      go_upto_region 4 with (fail)
      go_cut [] (fun wd => Aside0 (wd.heap[g1]? = some (.cells #[.int .i64 a1_0, .int .i64 a1_1, .int .i64 a1_2, .int .i64 a3_3] 25 (0, 0))) ∧ Aside0 (wd.heap[g2]? = some (.cells #[.int .i64 a2_0, .int .i64 a2_1, .int .i64 a2_2, .int .i64 a4_3] 25 (0, 0))) ∧ Aside0 (wd.heap[g3]? = some (.cells #[.bool a6_0, .bool a6_1, .bool a6_2, .bool a7_3] 27 (0, 0))) ∧ Aside0 (Below w0.heap.size w0 wd))
      case first =>
        go_region
        go_wp2_with fail
        go_meet
        exact ⟨⟨blk_drew (blk_far (blk_far (blk_put B1.out 3 _ rfl) G4 _) G5 _)⟩, ⟨blk_drew (blk_far (blk_put (blk_far B2.out (Ne.symm G4) _) 3 _ rfl) G6 _)⟩, ⟨blk_drew (blk_put (blk_far (blk_far B3.out (Ne.symm G5) _) (Ne.symm G6) _) 3 _ rfl)⟩, ⟨below_drew1 (below_set (below_set (below_set HBc.out G1) G2) G3)⟩⟩
      case rest =>
        obtain ⟨C1, C2, C3, HBd⟩ := hcut
        clear b1_3 b2_3 b3_3 f1_3 f2_3 f3_3 hcc hfc zg1 zg2 zg3 zk_0 zk_1 zk_2 zk_3 zk_4 zk_5 zk_6 B1 B2 B3 HBc G
        obtain ⟨hcd, hfd⟩ := bcell HBd.out
        have zd1 := blk_lt C1.out
        have zd2 := blk_lt C2.out
        have zd3 := blk_lt C3.out
        have zd_0 : w.heap.size < wc.heap.size := by have := HBd.out.size; omega
        have zd_1 : w.heap.size + 1 < wc.heap.size := by have := HBd.out.size; omega
        have zd_2 : w.heap.size + 1 + 1 < wc.heap.size := by have := HBd.out.size; omega
        have zd_3 : w.heap.size + 1 + 1 + 1 < wc.heap.size := by have := HBd.out.size; omega
        have zd_4 : w.heap.size + 1 + 1 + 1 + 1 < wc.heap.size := by have := HBd.out.size; omega
        have zd_5 : w.heap.size + 1 + 1 + 1 + 1 + 1 < wc.heap.size := by have := HBd.out.size; omega
        have zd_6 : w.heap.size + 1 + 1 + 1 + 1 + 1 + 1 < wc.heap.size := by have := HBd.out.size; omega
        have c1_0 : wc.cell? ⟨g1, 0, none⟩ = some (.int .i64 a1_0) := (blk_cell C1.out 0).trans rfl
        have c1_1 : wc.cell? ⟨g1, 1, none⟩ = some (.int .i64 a1_1) := (blk_cell C1.out 1).trans rfl
        have c1_2 : wc.cell? ⟨g1, 2, none⟩ = some (.int .i64 a1_2) := (blk_cell C1.out 2).trans rfl
        have c1_3 : wc.cell? ⟨g1, 3, none⟩ = some (.int .i64 a3_3) := (blk_cell C1.out 3).trans rfl
        have c2_0 : wc.cell? ⟨g2, 0, none⟩ = some (.int .i64 a2_0) := (blk_cell C2.out 0).trans rfl
        have c2_1 : wc.cell? ⟨g2, 1, none⟩ = some (.int .i64 a2_1) := (blk_cell C2.out 1).trans rfl
        have c2_2 : wc.cell? ⟨g2, 2, none⟩ = some (.int .i64 a2_2) := (blk_cell C2.out 2).trans rfl
        have c2_3 : wc.cell? ⟨g2, 3, none⟩ = some (.int .i64 a4_3) := (blk_cell C2.out 3).trans rfl
        have c3_0 : wc.cell? ⟨g3, 0, none⟩ = some (.bool a6_0) := (blk_cell C3.out 0).trans rfl
        have c3_1 : wc.cell? ⟨g3, 1, none⟩ = some (.bool a6_1) := (blk_cell C3.out 1).trans rfl
        have c3_2 : wc.cell? ⟨g3, 2, none⟩ = some (.bool a6_2) := (blk_cell C3.out 2).trans rfl
        have c3_3 : wc.cell? ⟨g3, 3, none⟩ = some (.bool a7_3) := (blk_cell C3.out 3).trans rfl
        go_wp2_with fail
        refine (detector_Expose.calls a0_0 a0_1 a0_2 a0_3 a0_4 a1_0 a1_1 a1_2 a1_3 a2_0 a2_1 a2_2 a2_3 a5 a6_0 a6_1 a6_2 a6_3 e0 e1 e2 e3 e4 _ hE.out).mono ?_
        rintro e w1 ⟨rfl, hb1⟩
        obtain ⟨hc1, hf1⟩ := bcell hb1
        have z1_0 : w.heap.size < w1.heap.size := by have := hb1.size; (try simp at this); omega
        have z1_1 : w.heap.size + 1 < w1.heap.size := by have := hb1.size; (try simp at this); omega
        have z1_2 : w.heap.size + 1 + 1 < w1.heap.size := by have := hb1.size; (try simp at this); omega
        have z1_3 : w.heap.size + 1 + 1 + 1 < w1.heap.size := by have := hb1.size; (try simp at this); omega
        have z1_4 : w.heap.size + 1 + 1 + 1 + 1 < w1.heap.size := by have := hb1.size; (try simp at this); omega
        have z1_5 : w.heap.size + 1 + 1 + 1 + 1 + 1 < w1.heap.size := by have := hb1.size; (try simp at this); omega
        have z1_6 : w.heap.size + 1 + 1 + 1 + 1 + 1 + 1 < w1.heap.size := by have := hb1.size; (try simp at this); omega
        have z1_7 : g1 < w1.heap.size := by have := hb1.size; (try simp at this); omega
        have z1_8 : g2 < w1.heap.size := by have := hb1.size; (try simp at this); omega
        have z1_9 : g3 < w1.heap.size := by have := hb1.size; (try simp at this); omega
        go_wp2_with fail
        refine (detector_Expose.calls a0_0 a0_1 a0_2 a0_3 a0_4 a3_0 a3_1 a3_2 a3_3 a4_0 a4_1 a4_2 a4_3 a5 a7_0 a7_1 a7_2 a7_3 f0 f1 f2 f3 f4 _ hF.out).mono ?_
        rintro e w2 ⟨rfl, hb2⟩
        obtain ⟨hc2, hf2⟩ := bcell hb2
        have z2_0 : w.heap.size < w2.heap.size := by have := hb2.size; (try simp at this); omega
        have z2_1 : w.heap.size + 1 < w2.heap.size := by have := hb2.size; (try simp at this); omega
        have z2_2 : w.heap.size + 1 + 1 < w2.heap.size := by have := hb2.size; (try simp at this); omega
        have z2_3 : w.heap.size + 1 + 1 + 1 < w2.heap.size := by have := hb2.size; (try simp at this); omega
        have z2_4 : w.heap.size + 1 + 1 + 1 + 1 < w2.heap.size := by have := hb2.size; (try simp at this); omega
        have z2_5 : w.heap.size + 1 + 1 + 1 + 1 + 1 < w2.heap.size := by have := hb2.size; (try simp at this); omega
        have z2_6 : w.heap.size + 1 + 1 + 1 + 1 + 1 + 1 < w2.heap.size := by have := hb2.size; (try simp at this); omega
        have z2_7 : g1 < w2.heap.size := by have := hb2.size; (try simp at this); omega
        have z2_8 : g2 < w2.heap.size := by have := hb2.size; (try simp at this); omega
        have z2_9 : g3 < w2.heap.size := by have := hb2.size; (try simp at this); omega
        have z2_10 : w1.heap.size < w2.heap.size := by have := hb2.size; (try simp at this); omega
        go_wp2_with fail
        refine (detector_Expose.calls a0_0 a0_1 a0_2 a0_3 a0_4 a1_0 a1_1 a1_2 a3_3 a2_0 a2_1 a2_2 a4_3 a5 a6_0 a6_1 a6_2 a7_3 h3_0 h3_1 h3_2 h3_3 h3_4 _ hH3.out).mono ?_
        rintro e w3 ⟨rfl, hb3⟩
        obtain ⟨hc3, hf3⟩ := bcell hb3
        have z3_0 : w.heap.size < w3.heap.size := by have := hb3.size; (try simp at this); omega
        have z3_1 : w.heap.size + 1 < w3.heap.size := by have := hb3.size; (try simp at this); omega
        have z3_2 : w.heap.size + 1 + 1 < w3.heap.size := by have := hb3.size; (try simp at this); omega
        have z3_3 : w.heap.size + 1 + 1 + 1 < w3.heap.size := by have := hb3.size; (try simp at this); omega
        have z3_4 : w.heap.size + 1 + 1 + 1 + 1 < w3.heap.size := by have := hb3.size; (try simp at this); omega
        have z3_5 : w.heap.size + 1 + 1 + 1 + 1 + 1 < w3.heap.size := by have := hb3.size; (try simp at this); omega
        have z3_6 : w.heap.size + 1 + 1 + 1 + 1 + 1 + 1 < w3.heap.size := by have := hb3.size; (try simp at this); omega
        have z3_7 : g1 < w3.heap.size := by have := hb3.size; (try simp at this); omega
        have z3_8 : g2 < w3.heap.size := by have := hb3.size; (try simp at this); omega
        have z3_9 : g3 < w3.heap.size := by have := hb3.size; (try simp at this); omega
        have z3_10 : w1.heap.size < w3.heap.size := by have := hb3.size; (try simp at this); omega
        have z3_11 : w2.heap.size < w3.heap.size := by have := hb3.size; (try simp at this); omega
        rcases cc with rfl | ⟨rfl, rfl⟩
        all_goals
          go_wp2
          go_ret
          exact ⟨rfl, by repeat (with_reducible first | exact Below.refl _ _ | (refine below_set ?_ (by first | omega | exact Nat.le_refl _)) | apply below_alloc | apply pw_below_drewN | apply below_drew1 | refine below_step ?_ hb3 | refine below_step ?_ hb2 | refine below_step ?_ hb1 | exact below_step (by repeat (with_reducible first | exact Below.refl _ _ | apply below_alloc | refine below_step ?_ hb0)) HBd.out)⟩
end Go.Proofs.Ytgagnoijnhhegaa.Px
