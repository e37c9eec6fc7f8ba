/- What the reference says of Advance, in the form of the contracts: the walk by hand. -/
import Derived.Test.YtefaemikfihdeaaPxx0
import Derived.Test.YtefaemikfihdeaaPxx20
import Derived.Test.YtefaemikfihdeaaExtA
import Derived.Deep.DeepCutAuto
import Derived.Deep.CutBlock
namespace Go.Proofs.Ytefaemikfihdeaa.Px
open Go.RowKit Go.Proofs.YtefaemikfihdeaaW.PrintWords Go.Proofs.YtefaemikfihdeaaW.PrintLast Go.Proofs.YtefaemikfihdeaaW.PrintMore
attribute [local go_sem] max2_int min2_int max_two min_two max_three min_three max_four min_four World.size_setCell   -- for this text's walks alone
set_option linter.unusedVariables false
set_option linter.unusedSimpArgs false

/-! ### observatoryref24_Advance: function 13 -/
def observatoryref24_Advance.f (k : Nat) (l0_0 : List (S35)) (a0_1 : Int) (a1_0 : Int) (a1_1 : Int) (a1_2 : Int) (a1_3 : Bool) (a2 : Int) : Option (Int × Int × Int × Bool × Int) := (observatoryref24_Ready.f k l0_0 a0_1 a1_0 a1_1 a1_2 a1_3 a2).bind fun t214 => (if t214 = 0 then (if (wrap64 (a1_0 + 1)) = (l0_0.length : Int) then (some (0, wrap64 (a1_1 + 1), a2, ((wrap64 (a1_1 + 1)) == a0_1), 0)) else (some (wrap64 (a1_0 + 1), a1_1, a2, a1_3, 0))) else (some (0, 0, 0, false, t214)))
theorem observatoryref24_Advance.mono : ∀ a0 a1 a2 a3 a4 a5 a6 k, LeO (observatoryref24_Advance.f k a0 a1 a2 a3 a4 a5 a6) (observatoryref24_Advance.f (k + 1) a0 a1 a2 a3 a4 a5 a6) := by
  intro a0 a1 a2 a3 a4 a5 a6 k
  unfold observatoryref24_Advance.f
  repeat' first
      | (with_reducible exact observatoryref24_Ready.mono _ _ _ _ _ _ _ _)
      | (with_reducible exact LeO.refl _)
      | (with_reducible exact LeO.none _)
      | (with_reducible refine LeO.ite ?_ ?_)
      | (with_reducible refine LeO.bind ?_ (fun _ => ?_))
      | exact observatoryref24_Ready.mono _ _ _ _ _ _ _ _
      | exact LeO.none _
      | refine LeO.ite ?_ ?_
      | refine LeO.bind ?_ (fun _ => ?_)
theorem two_blk (w : World) (x y : Obj) : ((w.alloc x).alloc y).heap[w.heap.size]? = some x ∧ ((w.alloc x).alloc y).heap[w.heap.size + 1]? = some y := by
  refine ⟨blk_alloc (blk_new w x) y, ?_⟩
  have h := blk_new (w.alloc x) y
  rwa [show (w.alloc x).heap.size = w.heap.size + 1 from by simp] at h
set_option maxHeartbeats 2000000 in
set_option maxRecDepth 100000 in
theorem observatoryref24_Advance.calls (k : Nat) (A0_0 : Option Addr) (c0_0 : Nat) (l0_0 : List (S35)) (a0_1 : Int) (a1_0 : Int) (a1_1 : Int) (a1_2 : Int) (a1_3 : Bool) (a2 : Int) (r1 : Int) (r2 : Int) (r3 : Int) (r4 : Bool) (r5 : Int) (w : World) (hr0_0 : Kd.C k35 w A0_0 l0_0.length l0_0) (hc0_0 : l0_0.length ≤ c0_0) (h : observatoryref24_Advance.f k l0_0 a0_1 a1_0 a1_1 a1_2 a1_3 a2 = some (r1, r2, r3, r4, r5)) :
    Calls Try.prog 13 #[.agg #[.slice A0_0 l0_0.length c0_0, .int .i64 a0_1], .agg #[.int .i64 a1_0, .int .i64 a1_1, .int .i64 a1_2, .bool a1_3], .int .i64 a2] w fun e w' => e = .returned (.tuple #[.agg #[.int .i64 r1, .int .i64 r2, .int .i64 r3, .bool r4], .int .i64 r5]) ∧ Below w.heap.size w w' := by
  have hu24 := Try.underlying24
  have hu30 := Try.underlying30
  obtain ⟨t, hA_, H⟩ := Option.bind_eq_some_iff.mp h
  clear h
  have hA := Aside0.mk hA_
  clear hA_
  have HR := Aside0.mk hr0_0
  have HC := Aside0.mk hc0_0
  clear hr0_0 hc0_0
  by_cases c : t = 0
  · subst c
    rw [if_pos rfl] at H
    by_cases c2 : (wrap64 (a1_0 + 1)) = (l0_0.length : Int)
    · rw [if_pos c2] at H
      simp only [Option.some.injEq, Prod.mk.injEq] at H
      obtain ⟨rfl, rfl, rfl, rfl, rfl⟩ := H
      have c2b : ((wrap64 (a1_0 + 1)) == (l0_0.length : Int)) = true := beq_iff_eq.mpr c2
      clear c2
      go_enter Try.func13, Try.ntmps13
      go_wp2_with fail
      refine (observatoryref24_Ready.calls k _ _ l0_0 a0_1 a1_0 a1_1 a1_2 a1_3 a2 _ _ (Kd.C_below HR.out (by repeat (with_reducible first | exact Below.refl _ _ | (refine below_set ?_ (by first | omega | exact Nat.le_refl _)) | apply below_alloc | apply pw_below_drewN | apply below_drew1))) HC.out hA.out).mono ?_
      rintro e w1 ⟨rfl, hb1⟩
      obtain ⟨hc1, hf1⟩ := bcell hb1
      have z0 : w.heap.size < w1.heap.size := by have := hb1.size; (try simp at this); omega
      have z1 : w.heap.size + 1 < w1.heap.size := by have := hb1.size; (try simp at this); omega
      have z2 : w.heap.size + 1 + 1 < w1.heap.size := by have := hb1.size; (try simp at this); omega
      have W0 : w1.heap[w.heap.size + 1]? = some (.cells #[.int .i64 a1_0, .int .i64 a1_1, .int .i64 a1_2, .bool a1_3] 30 (0, 0)) := blk_below (blk_alloc (two_blk w _ _).2 _) hb1
      have W1 : w1.heap[w.heap.size + 1 + 1]? = some (.cells #[.int .i64 0, .int .i64 0, .int .i64 0, .bool false] 30 (0, 0)) := blk_below (by have h_ := blk_new ((w.alloc (.cells #[.slice A0_0 l0_0.length c0_0, .int .i64 a0_1] 24 (0, 0))).alloc (.cells #[.int .i64 a1_0, .int .i64 a1_1, .int .i64 a1_2, .bool a1_3] 30 (0, 0))) (.cells #[.int .i64 0, .int .i64 0, .int .i64 0, .bool false] 30 (0, 0)); simpa using h_) hb1
      have W0' := Aside0.mk W0
      have W1' := Aside0.mk W1
      clear W0 W1
      have HB1 := Aside0.mk hb1
      go_upto_region 9 with (fail)
      go_cut [] (fun wd => Aside0 (wd.heap[w.heap.size + 1]? = some (.cells #[.int .i64 0, .int .i64 (wrap64 (a1_1 + 1)), .int .i64 a2, .bool (wrap64 (a1_1 + 1) == a0_1)] 30 (0, 0))) ∧ Aside0 (wd.heap[w.heap.size + 1 + 1]? = some (.cells #[.int .i64 0, .int .i64 0, .int .i64 0, .bool false] 30 (0, 0))) ∧ Aside0 (Below w.heap.size w wd))
      case first =>
        go_wp2_with fail
        go_meet
        refine ⟨⟨?_⟩, ⟨?_⟩, ⟨?_⟩⟩
        · exact blk_put (blk_put (blk_put (blk_put (blk_put W0'.out 2 _ rfl) 0 _ rfl) 0 _ rfl) 1 _ rfl) 3 _ rfl
        · refine blk_far (blk_far (blk_far (blk_far (blk_far W1'.out ?_ _) ?_ _) ?_ _) ?_ _) ?_ _ <;> simp
        · repeat (with_reducible first | exact Below.refl _ _ | (refine below_set ?_ (by first | omega | exact Nat.le_refl _)) | apply below_alloc | apply pw_below_drewN | apply below_drew1 | refine below_step ?_ hb1)
      case rest =>
        obtain ⟨D0, D1, HD⟩ := hcut
        generalize hq2_ : wrap64 (a1_1 + 1) = q2 at D0 ⊢
        generalize hq3_ : (q2 == a0_1) = q3 at D0 ⊢
        clear hc1 hf1 W0' W1' HB1 hb1
        clear z0 z1 z2
        have d0 : wc.cell? ⟨w.heap.size + 1, 0, none⟩ = some (.int .i64 0) := (blk_cell D0.out 0).trans rfl
        have d1 : wc.cell? ⟨w.heap.size + 1, 1, none⟩ = some (.int .i64 q2) := (blk_cell D0.out 1).trans rfl
        have d2 : wc.cell? ⟨w.heap.size + 1, 2, none⟩ = some (.int .i64 a2) := (blk_cell D0.out 2).trans rfl
        have d3 : wc.cell? ⟨w.heap.size + 1, 3, none⟩ = some (.bool q3) := (blk_cell D0.out 3).trans rfl
        have e0 : wc.cell? ⟨w.heap.size + 1 + 1, 0, none⟩ = some (.int .i64 0) := (blk_cell D1.out 0).trans rfl
        have e1 : wc.cell? ⟨w.heap.size + 1 + 1, 1, none⟩ = some (.int .i64 0) := (blk_cell D1.out 1).trans rfl
        have e2 : wc.cell? ⟨w.heap.size + 1 + 1, 2, none⟩ = some (.int .i64 0) := (blk_cell D1.out 2).trans rfl
        have e3 : wc.cell? ⟨w.heap.size + 1 + 1, 3, none⟩ = some (.bool false) := (blk_cell D1.out 3).trans rfl
        have g0 : wc.frozen? ⟨w.heap.size + 1 + 1, 0, none⟩ = false := blk_frozen D1.out 0
        have g1 : wc.frozen? ⟨w.heap.size + 1 + 1, 1, none⟩ = false := blk_frozen D1.out 1
        have g2 : wc.frozen? ⟨w.heap.size + 1 + 1, 2, none⟩ = false := blk_frozen D1.out 2
        have g3 : wc.frozen? ⟨w.heap.size + 1 + 1, 3, none⟩ = false := blk_frozen D1.out 3
        have zz := blk_lt D1.out
        subst hq3_
        subst hq2_
        go_wp2
        refine bodyPost_ret (v := .tuple #[.agg #[.int .i64 0, .int .i64 (wrap64 (a1_1 + 1)), .int .i64 a2, .bool (wrap64 (a1_1 + 1) == a0_1)], .int .i64 0]) (by simp [results, Try.results13, go_sem, e0, e1, e2, e3, zz]) rfl ⟨rfl, ?_⟩
        repeat (with_reducible first | exact Below.refl _ _ | (refine below_set ?_ (by first | omega | exact Nat.le_refl _)) | apply below_alloc | apply pw_below_drewN | apply below_drew1 | exact HD.out)
    · rw [if_neg c2] at H
      simp only [Option.some.injEq, Prod.mk.injEq] at H
      obtain ⟨rfl, rfl, rfl, rfl, rfl⟩ := H
      have c2b : ((wrap64 (a1_0 + 1)) == (l0_0.length : Int)) = false := beq_eq_false_iff_ne.mpr c2
      clear c2
      go_enter Try.func13, Try.ntmps13
      go_wp2_with fail
      refine (observatoryref24_Ready.calls k _ _ l0_0 a0_1 a1_0 a1_1 a1_2 a1_3 a2 _ _ (Kd.C_below HR.out (by repeat (with_reducible first | exact Below.refl _ _ | (refine below_set ?_ (by first | omega | exact Nat.le_refl _)) | apply below_alloc | apply pw_below_drewN | apply below_drew1))) HC.out hA.out).mono ?_
      rintro e w1 ⟨rfl, hb1⟩
      obtain ⟨hc1, hf1⟩ := bcell hb1
      have z0 : w.heap.size < w1.heap.size := by have := hb1.size; (try simp at this); omega
      have z1 : w.heap.size + 1 < w1.heap.size := by have := hb1.size; (try simp at this); omega
      have z2 : w.heap.size + 1 + 1 < w1.heap.size := by have := hb1.size; (try simp at this); omega
      go_upto_region 10 with (fail)
      generalize hq1_ : wrap64 (a1_0 + 1) = q1
      have hq1 := Aside0.mk hq1_
      clear hq1_
      go_wp2
      refine bodyPost_ret (v := .tuple #[.agg #[.int .i64 q1, .int .i64 a1_1, .int .i64 a2, .bool a1_3], .int .i64 0]) (by simp [results, Try.results13, go_sem, hc1, z0, z1, z2]) rfl ⟨by rw [← hq1.out], ?_⟩
      repeat (with_reducible first | exact Below.refl _ _ | (refine below_set ?_ (by first | omega | exact Nat.le_refl _)) | apply below_alloc | apply pw_below_drewN | apply below_drew1 | refine below_step ?_ hb1)
  · rw [if_neg c] at H
    simp only [Option.some.injEq, Prod.mk.injEq] at H
    obtain ⟨rfl, rfl, rfl, rfl, rfl⟩ := H
    have cb : (t != 0) = true := bne_iff_ne.mpr c
    clear c
    go_enter Try.func13, Try.ntmps13
    go_wp2_with fail
    refine (observatoryref24_Ready.calls k _ _ l0_0 a0_1 a1_0 a1_1 a1_2 a1_3 a2 _ _ (Kd.C_below HR.out (by repeat (with_reducible first | exact Below.refl _ _ | (refine below_set ?_ (by first | omega | exact Nat.le_refl _)) | apply below_alloc | apply pw_below_drewN | apply below_drew1))) HC.out hA.out).mono ?_
    rintro e w1 ⟨rfl, hb1⟩
    obtain ⟨hc1, hf1⟩ := bcell hb1
    have z0 : w.heap.size < w1.heap.size := by have := hb1.size; (try simp at this); omega
    have z1 : w.heap.size + 1 < w1.heap.size := by have := hb1.size; (try simp at this); omega
    have z2 : w.heap.size + 1 + 1 < w1.heap.size := by have := hb1.size; (try simp at this); omega
    go_wp2
    refine bodyPost_ret (v := .tuple #[.agg #[.int .i64 0, .int .i64 0, .int .i64 0, .bool false], .int .i64 t]) (by simp [results, Try.results13, go_sem, hc1, z0, z1, z2]) rfl ⟨rfl, ?_⟩
    repeat (with_reducible first | exact Below.refl _ _ | (refine below_set ?_ (by first | omega | exact Nat.le_refl _)) | apply below_alloc | apply pw_below_drewN | apply below_drew1 | refine below_step ?_ hb1)
end Go.Proofs.Ytefaemikfihdeaa.Px
