/- The contract of the reference's Reduce, in the form of the print's contracts: what each call hands back, and that it changes nothing that was there. -/
import Derived.Test.YtgagnoijnhhegaaExtD
namespace Go.Proofs.Ytgagnoijnhhegaa.Px
open Go.RowKit Go.Proofs.YtgagnoijnhhegaaW.PrintWords Go.Proofs.YtgagnoijnhhegaaW.PrintLast Go.Proofs.YtgagnoijnhhegaaW.PrintMore
attribute [local go_sem] max2_int min2_int max_two min_two max_three min_three max_four min_four
set_option linter.unusedVariables false
set_option linter.unusedSimpArgs false

theorem okc_bad (r f : Int) : okc true r f = false := by simp [okc]
theorem okc_full {r f : Int} (h : (r == f) = true) : okc false r f = false := by have := eq_of_beq h; subst this; simp [okc]
theorem okc_in {r f : Int} (h : (r == f) = false) (hr : r ≤ f) : okc false r f = true := by have := ne_of_beq_false h; simp [okc]; omega
theorem red_no (r g b d : Int) : red false r g b d = 0 := by simp [red]
theorem red_pos {r g b d : Int} (h : 0 < r - b - d) : red true r g b d = (r - b - d) * 1000 / g := by unfold red mx; rw [if_pos rfl, if_pos h]
theorem red_neg {r g b d : Int} (h : ¬ 0 < r - b - d) : red true r g b d = 0 := by unfold red mx; rw [if_pos rfl, if_neg h]; simp
/-! ### observatoryref15_Reduce: function 15 -/
def observatoryref15_Reduce.f (a0_0 a0_1 a0_2 a0_3 a0_4 a1_0 a1_1 a1_2 a1_3 : Int) (a2_0 a2_1 a2_2 a2_3 : Bool) : Option (Int × Int × Int × Int × Bool × Bool × Bool × Bool × Int) :=
  if (vldB a0_0 a0_1 a0_2 a0_3 a0_4 && ligB a1_0 a1_1 a1_2 a1_3 a0_3) = true then some (red (okc a2_0 a1_0 a0_3) a1_0 a0_0 a0_1 a0_2, red (okc a2_1 a1_1 a0_3) a1_1 a0_0 a0_1 a0_2, red (okc a2_2 a1_2 a0_3) a1_2 a0_0 a0_1 a0_2, red (okc a2_3 a1_3 a0_3) a1_3 a0_0 a0_1 a0_2, okc a2_0 a1_0 a0_3, okc a2_1 a1_1 a0_3, okc a2_2 a1_2 a0_3, okc a2_3 a1_3 a0_3, 0) else some (0, 0, 0, 0, false, false, false, false, 1)

set_option maxHeartbeats 1000000 in
theorem rreduce_no (a0_0 a0_1 a0_2 a0_3 a0_4 a1_0 a1_1 a1_2 a1_3 : Int) (a2_0 a2_1 a2_2 a2_3 : Bool) (w : World) (hv_ : observatoryref15_Raw.f a0_0 a0_1 a0_2 a0_3 a0_4 a1_0 a1_1 a1_2 a1_3 = some false) :
    Calls Try.prog 15 #[.agg #[.int .i64 a0_0, .int .i64 a0_1, .int .i64 a0_2, .int .i64 a0_3, .int .i64 a0_4], .agg #[.int .i64 a1_0, .int .i64 a1_1, .int .i64 a1_2, .int .i64 a1_3], .agg #[.bool a2_0, .bool a2_1, .bool a2_2, .bool a2_3]] w fun e w' => e = .returned (.tuple #[.agg #[.int .i64 0, .int .i64 0, .int .i64 0, .int .i64 0], .agg #[.bool false, .bool false, .bool false, .bool false], .int .i64 1]) ∧ Below w.heap.size w w' := by
  have hv := Aside0.mk hv_
  clear hv_
  have hu23 := Try.underlying23
  have hu25 := Try.underlying25
  have hu27 := Try.underlying27
  go_enter Try.func15, Try.ntmps15
  go_wp2_with fail
  refine (observatoryref15_Raw.calls a0_0 a0_1 a0_2 a0_3 a0_4 a1_0 a1_1 a1_2 a1_3 false _ hv.out).mono ?_
  rintro e w0 ⟨rfl, hb0⟩
  obtain ⟨hc0, hf0⟩ := bcell hb0
  have z0_0 : w.heap.size < w0.heap.size := by have := hb0.size; (try simp at this); omega
  have z0_1 : w.heap.size + 1 < w0.heap.size := by have := hb0.size; (try simp at this); omega
  have z0_2 : w.heap.size + 1 + 1 < w0.heap.size := by have := hb0.size; (try simp at this); omega
  have z0_3 : w.heap.size + 1 + 1 + 1 < w0.heap.size := by have := hb0.size; (try simp at this); omega
  have z0_4 : w.heap.size + 1 + 1 + 1 + 1 < w0.heap.size := by have := hb0.size; (try simp at this); omega
  go_wp2
  refine bodyPost_ret (v := .tuple #[.agg #[.int .i64 0, .int .i64 0, .int .i64 0, .int .i64 0], .agg #[.bool false, .bool false, .bool false, .bool false], .int .i64 1]) ?hr rfl ⟨rfl, ?_⟩
  case hr =>
    simp only [results, Try.results15]
    go_simp
  repeat (with_reducible first | exact Below.refl _ _ | (refine below_set ?_ (by first | omega | exact Nat.le_refl _)) | apply below_alloc | apply pw_below_drewN | apply below_drew1 | refine below_step ?_ hb0)

set_option maxHeartbeats 4000000 in
theorem rreduce_yes (a0_0 a0_1 a0_2 a0_3 a0_4 a1_0 a1_1 a1_2 a1_3 : Int) (a2_0 a2_1 a2_2 a2_3 : Bool) (w : World) (hv_ : observatoryref15_Raw.f a0_0 a0_1 a0_2 a0_3 a0_4 a1_0 a1_1 a1_2 a1_3 = some true) (v_ : vldB a0_0 a0_1 a0_2 a0_3 a0_4 = true) (l_ : ligB a1_0 a1_1 a1_2 a1_3 a0_3 = true) :
    Calls Try.prog 15 #[.agg #[.int .i64 a0_0, .int .i64 a0_1, .int .i64 a0_2, .int .i64 a0_3, .int .i64 a0_4], .agg #[.int .i64 a1_0, .int .i64 a1_1, .int .i64 a1_2, .int .i64 a1_3], .agg #[.bool a2_0, .bool a2_1, .bool a2_2, .bool a2_3]] w fun e w' => e = .returned (.tuple #[.agg #[.int .i64 (red (okc a2_0 a1_0 a0_3) a1_0 a0_0 a0_1 a0_2), .int .i64 (red (okc a2_1 a1_1 a0_3) a1_1 a0_0 a0_1 a0_2), .int .i64 (red (okc a2_2 a1_2 a0_3) a1_2 a0_0 a0_1 a0_2), .int .i64 (red (okc a2_3 a1_3 a0_3) a1_3 a0_0 a0_1 a0_2)], .agg #[.bool (okc a2_0 a1_0 a0_3), .bool (okc a2_1 a1_1 a0_3), .bool (okc a2_2 a1_2 a0_3), .bool (okc a2_3 a1_3 a0_3)], .int .i64 0]) ∧ Below w.heap.size w w' := by
  obtain ⟨g1, g2, b1, b2, d1, d2, f1, f2, k1, k2⟩ := vld_bd v_
  obtain ⟨x10, x20, x11, x21, x12, x22, x13, x23⟩ := lig_bd l_
  clear v_ l_
  have hv := Aside0.mk hv_
  clear hv_
  have hu23 := Try.underlying23
  have hu25 := Try.underlying25
  have hu27 := Try.underlying27
  go_enter Try.func15, Try.ntmps15
  go_wp2_with fail
  refine (observatoryref15_Raw.calls a0_0 a0_1 a0_2 a0_3 a0_4 a1_0 a1_1 a1_2 a1_3 true _ hv.out).mono ?_
  rintro e w0 ⟨rfl, hb0⟩
  obtain ⟨hc0, hf0⟩ := bcell hb0
  have z0_0 : w.heap.size < w0.heap.size := by have := hb0.size; (try simp at this); omega
  have z0_1 : w.heap.size + 1 < w0.heap.size := by have := hb0.size; (try simp at this); omega
  have z0_2 : w.heap.size + 1 + 1 < w0.heap.size := by have := hb0.size; (try simp at this); omega
  have z0_3 : w.heap.size + 1 + 1 + 1 < w0.heap.size := by have := hb0.size; (try simp at this); omega
  have z0_4 : w.heap.size + 1 + 1 + 1 + 1 < w0.heap.size := by have := hb0.size; (try simp at this); omega
  go_wp2
  go_loopw [11] (fun i wr => ∃ k : Int, 0 ≤ k ∧ k ≤ 4 ∧ i = .int .i64 k ∧ Aside0 (wr.heap[w0.heap.size]? = some (.cells #[.int .i64 (nth 0 k (red (okc a2_0 a1_0 a0_3) a1_0 a0_0 a0_1 a0_2)), .int .i64 (nth 1 k (red (okc a2_1 a1_1 a0_3) a1_1 a0_0 a0_1 a0_2)), .int .i64 (nth 2 k (red (okc a2_2 a1_2 a0_3) a1_2 a0_0 a0_1 a0_2)), .int .i64 (nth 3 k (red (okc a2_3 a1_3 a0_3) a1_3 a0_0 a0_1 a0_2))] 25 (0, 0)))
      ∧ Aside0 (wr.heap[w0.heap.size + 1]? = some (.cells #[.bool (kth 0 k (okc a2_0 a1_0 a0_3)), .bool (kth 1 k (okc a2_1 a1_1 a0_3)), .bool (kth 2 k (okc a2_2 a1_2 a0_3)), .bool (kth 3 k (okc a2_3 a1_3 a0_3))] 27 (0, 0))) ∧ Below w0.heap.size w0 wr) (fun i _ => 4 - (intOf i).toNat)
  case atStart => exact ⟨0, by omega, by omega, rfl, ⟨by simpa [nth] using blk_alloc (blk_new w0 _) _⟩, ⟨by simpa [kth] using blk_new (w0.alloc (.cells #[.int .i64 0, .int .i64 0, .int .i64 0, .int .i64 0] 25)) _⟩, by repeat (with_reducible first | exact Below.refl _ _ | (refine below_set ?_ (by first | omega | exact Nat.le_refl _)) | apply below_alloc | apply pw_below_drewN | apply below_drew1)⟩
  case round =>
    obtain ⟨k, hk0, hk, rfl, HBK, HBV, hbr⟩ := hrel
    obtain ⟨hcr, hfr⟩ := bcell hbr
    have zr := blk_lt HBK.out
    have zr' := blk_lt HBV.out
    have zr_0 : w.heap.size < wr.heap.size := by have := hbr.size; omega
    have zn_0 : ¬ (w.heap.size = w0.heap.size) := by omega
    have zm_0 : ¬ (w.heap.size = w0.heap.size + 1) := by omega
    have zr_1 : w.heap.size + 1 < wr.heap.size := by have := hbr.size; omega
    have zn_1 : ¬ (w.heap.size + 1 = w0.heap.size) := by omega
    have zm_1 : ¬ (w.heap.size + 1 = w0.heap.size + 1) := by omega
    have zr_2 : w.heap.size + 1 + 1 < wr.heap.size := by have := hbr.size; omega
    have zn_2 : ¬ (w.heap.size + 1 + 1 = w0.heap.size) := by omega
    have zm_2 : ¬ (w.heap.size + 1 + 1 = w0.heap.size + 1) := by omega
    have zr_3 : w.heap.size + 1 + 1 + 1 < wr.heap.size := by have := hbr.size; omega
    have zn_3 : ¬ (w.heap.size + 1 + 1 + 1 = w0.heap.size) := by omega
    have zm_3 : ¬ (w.heap.size + 1 + 1 + 1 = w0.heap.size + 1) := by omega
    have zr_4 : w.heap.size + 1 + 1 + 1 + 1 < wr.heap.size := by have := hbr.size; omega
    have zn_4 : ¬ (w.heap.size + 1 + 1 + 1 + 1 = w0.heap.size) := by omega
    have zm_4 : ¬ (w.heap.size + 1 + 1 + 1 + 1 = w0.heap.size + 1) := by omega
    have hk5 : k = 0 ∨ k = 1 ∨ k = 2 ∨ k = 3 ∨ k = 4 := by omega
    rcases hk5 with rfl | rfl | rfl | rfl | rfl
    · have hk0 : wr.cell? ⟨w0.heap.size, 0, none⟩ = some (.int .i64 (nth 0 0 (red (okc a2_0 a1_0 a0_3) a1_0 a0_0 a0_1 a0_2))) := (blk_cell HBK.out 0).trans rfl
      have hv0 : wr.cell? ⟨w0.heap.size + 1, 0, none⟩ = some (.bool (kth 0 0 (okc a2_0 a1_0 a0_3))) := (blk_cell HBV.out 0).trans rfl
      have hfz : wr.frozen? ⟨w0.heap.size, 0, none⟩ = false := blk_frozen HBK.out 0
      have hfv : wr.frozen? ⟨w0.heap.size + 1, 0, none⟩ = false := blk_frozen HBV.out 0
      rcases Bool.eq_false_or_eq_true a2_0 with hbad | hbad
      · subst hbad
        go_wp2
        go_quiet (fail)
        go_wp2
        go_roundw
        case rel => exact ⟨1, by omega, by omega, rfl, ⟨by have h_ := HBK.out; simp only [nth, okc_bad, red_no] at h_ ⊢; simpa using h_⟩, ⟨by have h_ := HBV.out; simp only [kth, okc_bad, red_no] at h_ ⊢; simpa using h_⟩, by repeat (with_reducible first | exact hbr | (refine below_set ?_ (by first | omega | exact Nat.le_refl _ | exact Nat.le_succ _)) | apply below_alloc | apply pw_below_drewN | apply below_drew1)⟩
        case measure => simp [intOf]
      · subst hbad
        rcases Bool.eq_false_or_eq_true (a1_0 == a0_3) with c1 | c1
        · go_wp2
          go_quiet (fail)
          go_wp2
          go_roundw
          case rel => exact ⟨1, by omega, by omega, rfl, ⟨by have h_ := HBK.out; simp only [nth, okc_full c1, red_no] at h_ ⊢; simpa using h_⟩, ⟨by have h_ := HBV.out; simp only [kth, okc_full c1, red_no] at h_ ⊢; simpa using h_⟩, by repeat (with_reducible first | exact hbr | (refine below_set ?_ (by first | omega | exact Nat.le_refl _ | exact Nat.le_succ _)) | apply below_alloc | apply pw_below_drewN | apply below_drew1)⟩
          case measure => simp [intOf]
        · by_cases c2 : 0 < a1_0 - a0_1 - a0_2
          · go_wp2
            go_quiet (fail)
            go_wp2
            go_quiet (fail)
            go_wp2
            go_roundw
            case rel => exact ⟨1, by omega, by omega, rfl, ⟨blk_put (blk_drewN (blk_far (blk_drewN HBK.out _) (by simp) _) _) 0 _ (by simp [nth, okc_in c1 x20, red_pos c2])⟩, ⟨blk_far (blk_drewN (blk_put (blk_drewN HBV.out _) 0 _ (by simp [kth, okc_in c1 x20])) _) (by simp) _⟩, by repeat (with_reducible first | exact hbr | (refine below_set ?_ (by first | omega | exact Nat.le_refl _ | exact Nat.le_succ _)) | apply below_alloc | apply pw_below_drewN | apply below_drew1)⟩
            case measure => simp [intOf]
          · go_wp2
            go_quiet (fail)
            go_wp2
            go_quiet (fail)
            go_wp2
            go_roundw
            case rel => exact ⟨1, by omega, by omega, rfl, ⟨blk_drewN (blk_far (blk_drewN (by have h_ := HBK.out; simp only [nth, okc_in c1 x20, red_neg (Int.not_lt.2 c2)] at h_ ⊢; simpa using h_) _) (by simp) _) _⟩, ⟨blk_drewN (blk_put (blk_drewN HBV.out _) 0 _ (by simp [kth, okc_in c1 x20])) _⟩, by repeat (with_reducible first | exact hbr | (refine below_set ?_ (by first | omega | exact Nat.le_refl _ | exact Nat.le_succ _)) | apply below_alloc | apply pw_below_drewN | apply below_drew1)⟩
            case measure => simp [intOf]
    · have hk1 : wr.cell? ⟨w0.heap.size, 1, none⟩ = some (.int .i64 (nth 1 1 (red (okc a2_1 a1_1 a0_3) a1_1 a0_0 a0_1 a0_2))) := (blk_cell HBK.out 1).trans rfl
      have hv1 : wr.cell? ⟨w0.heap.size + 1, 1, none⟩ = some (.bool (kth 1 1 (okc a2_1 a1_1 a0_3))) := (blk_cell HBV.out 1).trans rfl
      have hfz : wr.frozen? ⟨w0.heap.size, 1, none⟩ = false := blk_frozen HBK.out 1
      have hfv : wr.frozen? ⟨w0.heap.size + 1, 1, none⟩ = false := blk_frozen HBV.out 1
      rcases Bool.eq_false_or_eq_true a2_1 with hbad | hbad
      · subst hbad
        go_wp2
        go_quiet (fail)
        go_wp2
        go_roundw
        case rel => exact ⟨2, by omega, by omega, rfl, ⟨by have h_ := HBK.out; simp only [nth, okc_bad, red_no] at h_ ⊢; simpa using h_⟩, ⟨by have h_ := HBV.out; simp only [kth, okc_bad, red_no] at h_ ⊢; simpa using h_⟩, by repeat (with_reducible first | exact hbr | (refine below_set ?_ (by first | omega | exact Nat.le_refl _ | exact Nat.le_succ _)) | apply below_alloc | apply pw_below_drewN | apply below_drew1)⟩
        case measure => simp [intOf]
      · subst hbad
        rcases Bool.eq_false_or_eq_true (a1_1 == a0_3) with c1 | c1
        · go_wp2
          go_quiet (fail)
          go_wp2
          go_roundw
          case rel => exact ⟨2, by omega, by omega, rfl, ⟨by have h_ := HBK.out; simp only [nth, okc_full c1, red_no] at h_ ⊢; simpa using h_⟩, ⟨by have h_ := HBV.out; simp only [kth, okc_full c1, red_no] at h_ ⊢; simpa using h_⟩, by repeat (with_reducible first | exact hbr | (refine below_set ?_ (by first | omega | exact Nat.le_refl _ | exact Nat.le_succ _)) | apply below_alloc | apply pw_below_drewN | apply below_drew1)⟩
          case measure => simp [intOf]
        · by_cases c2 : 0 < a1_1 - a0_1 - a0_2
          · go_wp2
            go_quiet (fail)
            go_wp2
            go_quiet (fail)
            go_wp2
            go_roundw
            case rel => exact ⟨2, by omega, by omega, rfl, ⟨blk_put (blk_drewN (blk_far (blk_drewN HBK.out _) (by simp) _) _) 1 _ (by simp [nth, okc_in c1 x21, red_pos c2])⟩, ⟨blk_far (blk_drewN (blk_put (blk_drewN HBV.out _) 1 _ (by simp [kth, okc_in c1 x21])) _) (by simp) _⟩, by repeat (with_reducible first | exact hbr | (refine below_set ?_ (by first | omega | exact Nat.le_refl _ | exact Nat.le_succ _)) | apply below_alloc | apply pw_below_drewN | apply below_drew1)⟩
            case measure => simp [intOf]
          · go_wp2
            go_quiet (fail)
            go_wp2
            go_quiet (fail)
            go_wp2
            go_roundw
            case rel => exact ⟨2, by omega, by omega, rfl, ⟨blk_drewN (blk_far (blk_drewN (by have h_ := HBK.out; simp only [nth, okc_in c1 x21, red_neg (Int.not_lt.2 c2)] at h_ ⊢; simpa using h_) _) (by simp) _) _⟩, ⟨blk_drewN (blk_put (blk_drewN HBV.out _) 1 _ (by simp [kth, okc_in c1 x21])) _⟩, by repeat (with_reducible first | exact hbr | (refine below_set ?_ (by first | omega | exact Nat.le_refl _ | exact Nat.le_succ _)) | apply below_alloc | apply pw_below_drewN | apply below_drew1)⟩
            case measure => simp [intOf]
    · have hk2 : wr.cell? ⟨w0.heap.size, 2, none⟩ = some (.int .i64 (nth 2 2 (red (okc a2_2 a1_2 a0_3) a1_2 a0_0 a0_1 a0_2))) := (blk_cell HBK.out 2).trans rfl
      have hv2 : wr.cell? ⟨w0.heap.size + 1, 2, none⟩ = some (.bool (kth 2 2 (okc a2_2 a1_2 a0_3))) := (blk_cell HBV.out 2).trans rfl
      have hfz : wr.frozen? ⟨w0.heap.size, 2, none⟩ = false := blk_frozen HBK.out 2
      have hfv : wr.frozen? ⟨w0.heap.size + 1, 2, none⟩ = false := blk_frozen HBV.out 2
      rcases Bool.eq_false_or_eq_true a2_2 with hbad | hbad
      · subst hbad
        go_wp2
        go_quiet (fail)
        go_wp2
        go_roundw
        case rel => exact ⟨3, by omega, by omega, rfl, ⟨by have h_ := HBK.out; simp only [nth, okc_bad, red_no] at h_ ⊢; simpa using h_⟩, ⟨by have h_ := HBV.out; simp only [kth, okc_bad, red_no] at h_ ⊢; simpa using h_⟩, by repeat (with_reducible first | exact hbr | (refine below_set ?_ (by first | omega | exact Nat.le_refl _ | exact Nat.le_succ _)) | apply below_alloc | apply pw_below_drewN | apply below_drew1)⟩
        case measure => simp [intOf]
      · subst hbad
        rcases Bool.eq_false_or_eq_true (a1_2 == a0_3) with c1 | c1
        · go_wp2
          go_quiet (fail)
          go_wp2
          go_roundw
          case rel => exact ⟨3, by omega, by omega, rfl, ⟨by have h_ := HBK.out; simp only [nth, okc_full c1, red_no] at h_ ⊢; simpa using h_⟩, ⟨by have h_ := HBV.out; simp only [kth, okc_full c1, red_no] at h_ ⊢; simpa using h_⟩, by repeat (with_reducible first | exact hbr | (refine below_set ?_ (by first | omega | exact Nat.le_refl _ | exact Nat.le_succ _)) | apply below_alloc | apply pw_below_drewN | apply below_drew1)⟩
          case measure => simp [intOf]
        · by_cases c2 : 0 < a1_2 - a0_1 - a0_2
          · go_wp2
            go_quiet (fail)
            go_wp2
            go_quiet (fail)
            go_wp2
            go_roundw
            case rel => exact ⟨3, by omega, by omega, rfl, ⟨blk_put (blk_drewN (blk_far (blk_drewN HBK.out _) (by simp) _) _) 2 _ (by simp [nth, okc_in c1 x22, red_pos c2])⟩, ⟨blk_far (blk_drewN (blk_put (blk_drewN HBV.out _) 2 _ (by simp [kth, okc_in c1 x22])) _) (by simp) _⟩, by repeat (with_reducible first | exact hbr | (refine below_set ?_ (by first | omega | exact Nat.le_refl _ | exact Nat.le_succ _)) | apply below_alloc | apply pw_below_drewN | apply below_drew1)⟩
            case measure => simp [intOf]
          · go_wp2
            go_quiet (fail)
            go_wp2
            go_quiet (fail)
            go_wp2
            go_roundw
            case rel => exact ⟨3, by omega, by omega, rfl, ⟨blk_drewN (blk_far (blk_drewN (by have h_ := HBK.out; simp only [nth, okc_in c1 x22, red_neg (Int.not_lt.2 c2)] at h_ ⊢; simpa using h_) _) (by simp) _) _⟩, ⟨blk_drewN (blk_put (blk_drewN HBV.out _) 2 _ (by simp [kth, okc_in c1 x22])) _⟩, by repeat (with_reducible first | exact hbr | (refine below_set ?_ (by first | omega | exact Nat.le_refl _ | exact Nat.le_succ _)) | apply below_alloc | apply pw_below_drewN | apply below_drew1)⟩
            case measure => simp [intOf]
    · have hk3 : wr.cell? ⟨w0.heap.size, 3, none⟩ = some (.int .i64 (nth 3 3 (red (okc a2_3 a1_3 a0_3) a1_3 a0_0 a0_1 a0_2))) := (blk_cell HBK.out 3).trans rfl
      have hv3 : wr.cell? ⟨w0.heap.size + 1, 3, none⟩ = some (.bool (kth 3 3 (okc a2_3 a1_3 a0_3))) := (blk_cell HBV.out 3).trans rfl
      have hfz : wr.frozen? ⟨w0.heap.size, 3, none⟩ = false := blk_frozen HBK.out 3
      have hfv : wr.frozen? ⟨w0.heap.size + 1, 3, none⟩ = false := blk_frozen HBV.out 3
      rcases Bool.eq_false_or_eq_true a2_3 with hbad | hbad
      · subst hbad
        go_wp2
        go_quiet (fail)
        go_wp2
        go_roundw
        case rel => exact ⟨4, by omega, by omega, rfl, ⟨by have h_ := HBK.out; simp only [nth, okc_bad, red_no] at h_ ⊢; simpa using h_⟩, ⟨by have h_ := HBV.out; simp only [kth, okc_bad, red_no] at h_ ⊢; simpa using h_⟩, by repeat (with_reducible first | exact hbr | (refine below_set ?_ (by first | omega | exact Nat.le_refl _ | exact Nat.le_succ _)) | apply below_alloc | apply pw_below_drewN | apply below_drew1)⟩
        case measure => simp [intOf]
      · subst hbad
        rcases Bool.eq_false_or_eq_true (a1_3 == a0_3) with c1 | c1
        · go_wp2
          go_quiet (fail)
          go_wp2
          go_roundw
          case rel => exact ⟨4, by omega, by omega, rfl, ⟨by have h_ := HBK.out; simp only [nth, okc_full c1, red_no] at h_ ⊢; simpa using h_⟩, ⟨by have h_ := HBV.out; simp only [kth, okc_full c1, red_no] at h_ ⊢; simpa using h_⟩, by repeat (with_reducible first | exact hbr | (refine below_set ?_ (by first | omega | exact Nat.le_refl _ | exact Nat.le_succ _)) | apply below_alloc | apply pw_below_drewN | apply below_drew1)⟩
          case measure => simp [intOf]
        · by_cases c2 : 0 < a1_3 - a0_1 - a0_2
          · go_wp2
            go_quiet (fail)
            go_wp2
            go_quiet (fail)
            go_wp2
            go_roundw
            case rel => exact ⟨4, by omega, by omega, rfl, ⟨blk_put (blk_drewN (blk_far (blk_drewN HBK.out _) (by simp) _) _) 3 _ (by simp [nth, okc_in c1 x23, red_pos c2])⟩, ⟨blk_far (blk_drewN (blk_put (blk_drewN HBV.out _) 3 _ (by simp [kth, okc_in c1 x23])) _) (by simp) _⟩, by repeat (with_reducible first | exact hbr | (refine below_set ?_ (by first | omega | exact Nat.le_refl _ | exact Nat.le_succ _)) | apply below_alloc | apply pw_below_drewN | apply below_drew1)⟩
            case measure => simp [intOf]
          · go_wp2
            go_quiet (fail)
            go_wp2
            go_quiet (fail)
            go_wp2
            go_roundw
            case rel => exact ⟨4, by omega, by omega, rfl, ⟨blk_drewN (blk_far (blk_drewN (by have h_ := HBK.out; simp only [nth, okc_in c1 x23, red_neg (Int.not_lt.2 c2)] at h_ ⊢; simpa using h_) _) (by simp) _) _⟩, ⟨blk_drewN (blk_put (blk_drewN HBV.out _) 3 _ (by simp [kth, okc_in c1 x23])) _⟩, by repeat (with_reducible first | exact hbr | (refine below_set ?_ (by first | omega | exact Nat.le_refl _ | exact Nat.le_succ _)) | apply below_alloc | apply pw_below_drewN | apply below_drew1)⟩
            case measure => simp [intOf]
    · have hk0 : wr.cell? ⟨w0.heap.size, 0, none⟩ = some (.int .i64 (red (okc a2_0 a1_0 a0_3) a1_0 a0_0 a0_1 a0_2)) := (blk_cell HBK.out 0).trans rfl
      have hv0 : wr.cell? ⟨w0.heap.size + 1, 0, none⟩ = some (.bool (okc a2_0 a1_0 a0_3)) := (blk_cell HBV.out 0).trans rfl
      have hk1 : wr.cell? ⟨w0.heap.size, 1, none⟩ = some (.int .i64 (red (okc a2_1 a1_1 a0_3) a1_1 a0_0 a0_1 a0_2)) := (blk_cell HBK.out 1).trans rfl
      have hv1 : wr.cell? ⟨w0.heap.size + 1, 1, none⟩ = some (.bool (okc a2_1 a1_1 a0_3)) := (blk_cell HBV.out 1).trans rfl
      have hk2 : wr.cell? ⟨w0.heap.size, 2, none⟩ = some (.int .i64 (red (okc a2_2 a1_2 a0_3) a1_2 a0_0 a0_1 a0_2)) := (blk_cell HBK.out 2).trans rfl
      have hv2 : wr.cell? ⟨w0.heap.size + 1, 2, none⟩ = some (.bool (okc a2_2 a1_2 a0_3)) := (blk_cell HBV.out 2).trans rfl
      have hk3 : wr.cell? ⟨w0.heap.size, 3, none⟩ = some (.int .i64 (red (okc a2_3 a1_3 a0_3) a1_3 a0_0 a0_1 a0_2)) := (blk_cell HBK.out 3).trans rfl
      have hv3 : wr.cell? ⟨w0.heap.size + 1, 3, none⟩ = some (.bool (okc a2_3 a1_3 a0_3)) := (blk_cell HBV.out 3).trans rfl
      go_wp2
      go_region
      all_goals
        go_wp2
        refine bodyPost_ret (v := .tuple #[.agg #[.int .i64 (red (okc a2_0 a1_0 a0_3) a1_0 a0_0 a0_1 a0_2), .int .i64 (red (okc a2_1 a1_1 a0_3) a1_1 a0_0 a0_1 a0_2), .int .i64 (red (okc a2_2 a1_2 a0_3) a1_2 a0_0 a0_1 a0_2), .int .i64 (red (okc a2_3 a1_3 a0_3) a1_3 a0_0 a0_1 a0_2)], .agg #[.bool (okc a2_0 a1_0 a0_3), .bool (okc a2_1 a1_1 a0_3), .bool (okc a2_2 a1_2 a0_3), .bool (okc a2_3 a1_3 a0_3)], .int .i64 0]) ?hr rfl ⟨rfl, ?_⟩
        case hr =>
          simp only [results, Try.results15]
          go_simp
        repeat (with_reducible first | exact Below.refl _ _ | (refine below_set ?_ (by first | omega | exact Nat.le_refl _)) | apply below_alloc | apply pw_below_drewN | apply below_drew1 | refine below_step ?_ hbr | refine below_step ?_ hb0)

theorem observatoryref15_Reduce.calls (a0_0 a0_1 a0_2 a0_3 a0_4 a1_0 a1_1 a1_2 a1_3 : Int) (a2_0 a2_1 a2_2 a2_3 : Bool) (r1 r2 r3 r4 : Int) (r5 r6 r7 r8 : Bool) (r9 : Int) (w : World) (h : observatoryref15_Reduce.f a0_0 a0_1 a0_2 a0_3 a0_4 a1_0 a1_1 a1_2 a1_3 a2_0 a2_1 a2_2 a2_3 = some (r1, r2, r3, r4, r5, r6, r7, r8, r9)) :
    Calls Try.prog 15 #[.agg #[.int .i64 a0_0, .int .i64 a0_1, .int .i64 a0_2, .int .i64 a0_3, .int .i64 a0_4], .agg #[.int .i64 a1_0, .int .i64 a1_1, .int .i64 a1_2, .int .i64 a1_3], .agg #[.bool a2_0, .bool a2_1, .bool a2_2, .bool a2_3]] w fun e w' => e = .returned (.tuple #[.agg #[.int .i64 r1, .int .i64 r2, .int .i64 r3, .int .i64 r4], .agg #[.bool r5, .bool r6, .bool r7, .bool r8], .int .i64 r9]) ∧ Below w.heap.size w w' := by
  have hv := rraw_eq a0_0 a0_1 a0_2 a0_3 a0_4 a1_0 a1_1 a1_2 a1_3
  unfold observatoryref15_Reduce.f at h
  cases cv : (vldB a0_0 a0_1 a0_2 a0_3 a0_4 && ligB a1_0 a1_1 a1_2 a1_3 a0_3)
  · rw [if_neg (by simp [cv])] at h
    simp only [Option.some.injEq, Prod.mk.injEq] at h
    obtain ⟨rfl, rfl, rfl, rfl, rfl, rfl, rfl, rfl, rfl⟩ := h
    exact rreduce_no a0_0 a0_1 a0_2 a0_3 a0_4 a1_0 a1_1 a1_2 a1_3 a2_0 a2_1 a2_2 a2_3 w (hv.trans (by rw [cv]))
  rw [if_pos cv] at h
  simp only [Option.some.injEq, Prod.mk.injEq] at h
  obtain ⟨rfl, rfl, rfl, rfl, rfl, rfl, rfl, rfl, rfl⟩ := h
  simp only [Bool.and_eq_true] at cv
  exact rreduce_yes a0_0 a0_1 a0_2 a0_3 a0_4 a1_0 a1_1 a1_2 a1_3 a2_0 a2_1 a2_2 a2_3 w (hv.trans (by simp [cv])) cv.1 cv.2

end Go.Proofs.Ytgagnoijnhhegaa.Px
