/- The law CadenceReplays, walked. -/
import Derived.Test.YtefaemikfihdeaaExtE
import Derived.Deep.DeepCutAuto
import Derived.Deep.CutBlock
namespace Go.Proofs.Ytefaemikfihdeaa.Px
open Go.RowKit Go.Proofs.YtefaemikfihdeaaW.PrintWords Go.Proofs.YtefaemikfihdeaaW.PrintLast Go.Proofs.YtefaemikfihdeaaW.PrintMore
attribute [local go_sem] max2_int min2_int max_two min_two max_three min_three max_four min_four
attribute [local go_sem high] eqA30
set_option linter.unusedVariables false
set_option linter.unusedSimpArgs false
set_option maxHeartbeats 8000000 in
set_option maxRecDepth 100000 in
theorem observatorylaw24_CadenceReplays.calls (k : Nat) (A0_0 : Option Addr) (c0_0 : Nat) (l0_0 : List (S35)) (a0_1 : Int) (A1 : Option Addr) (c1 : Nat) (l1 : List Int) (a2 : Int) (a3 : Int) (r : Bool) (w : World) (hr0_0 : Kd.C k35 w A0_0 l0_0.length l0_0) (hc0_0 : l0_0.length ≤ c0_0) (hr1 : Kd.C (Kd.int .i64) w A1 l1.length l1) (hc1 : l1.length ≤ c1) (hT : r = true) (h : observatorylaw24_CadenceReplays.f k l0_0 a0_1 l1 a2 a3 = some r) :
  Calls Try.prog 8 #[.agg #[.slice A0_0 l0_0.length c0_0, .int .i64 a0_1], .slice A1 l1.length c1, .int .i64 a2, .int .u8 a3] w fun e w' => e = .returned (.bool r) ∧ Below w.heap.size w w' := by
 have HTru_ := Aside0.mk hT; clear hT; have hu24 := Try.underlying24; have hu30 := Try.underlying30; have hu35 := Try.underlying35; have HR0_0 := Aside0.mk hr0_0; have HC0_0 := Aside0.mk hc0_0; clear hr0_0 hc0_0; have HR1 := Aside0.mk hr1; have HC1 := Aside0.mk hc1; clear hr1 hc1; have HB := Aside0.mk (Below.refl w.heap.size w); have H : ((observatorylaw24_head.f k).bind fun t132 => ((observatoryref24_Few.f l0_0 a0_1).bind fun t133 => (if t133 = true then (observatorylaw24_CadenceReplays.j0 k l1 a2 a3 t132 (decide ((l1.length : Int) > 200)) l0_0 a0_1) else (observatorylaw24_CadenceReplays.j0 k l1 a2 a3 t132 true l0_0 a0_1)))) = some r := h; clear h; replace H := Option.bind_eq_some_iff.mp H
 obtain ⟨t132, A50, H⟩ := H
 replace H : ((observatoryref24_Few.f l0_0 a0_1).bind fun t133 => (if t133 = true then (observatorylaw24_CadenceReplays.j0 k l1 a2 a3 t132 (decide ((l1.length : Int) > 200)) l0_0 a0_1) else (observatorylaw24_CadenceReplays.j0 k l1 a2 a3 t132 true l0_0 a0_1))) = some r := H; have A5 := Aside0.mk A50; clear A50; have HC6 := Aside0.mk H; clear H
 go_enter Try.func8, Try.ntmps8
 go_upto_region 2 with (first | ((with_reducible refine gate_dst (N := 4) rfl ?_); (try (refine gate_guard (by rfl) ?_; dsimp only)); refine box_event ?hg (N := 4) ?hd (cs := #[.slice A0_0 l0_0.length c0_0, .int .i64 a0_1]) (t := 24) ?hr ?_; (case hd => rfl); (case hg => rfl); (case hr => first | (go_simp; done) | (go_simp; rfl)); intro gb131 hg w7 hbox hb; have n0_ := Aside0.mk (below_step (by repeat (first | (with_reducible first | exact HB.out | apply below_alloc | apply pw_below_drewN | apply below_drew1) | exact HB.out)) hb); have n1_ := Aside0.mk (hbox); have n2_ := Aside0.mk ((by rw [hg]; exact (below_size (by repeat (first | (with_reducible first | exact HB.out | apply below_alloc | apply pw_below_drewN | apply below_drew1) | exact HB.out))) : w.heap.size ≤ gb131)); have n3_ := Aside0.mk ((by rw [hg]; exact (below_size (by repeat (first | (with_reducible first | exact HB.out | apply below_alloc | apply pw_below_drewN | apply below_drew1) | exact HB.out))) : w.heap.size ≤ gb131)); clear HB; have HB := n0_; have BK131 := n1_; have GW131 := n2_; have GE131 := n3_; clear n0_ n1_ n2_ n3_; clear hb hbox hg) | ((with_reducible refine gate_callee (f := 9) rfl ?_); refine goesL_ (some 25) rfl rfl Try.func9 (by kernel_rfl) rfl #[] rfl (by (try simp only [List.map_toArray, List.map_cons, List.map_nil]); first | done | rfl | (simp only [List.length_drop, List.length_take]; rfl)) ?_; (with_reducible refine (observatorylaw24_head.calls k  t132 _ A5.out).mono ?_); rintro e w8 ⟨rfl, hb⟩; refine ⟨_, rfl, ?_⟩; have n0_ := Aside0.mk (blk_below (g := gb131) (o := .cells #[.slice A0_0 l0_0.length c0_0, .int .i64 a0_1] 24 (0, 0)) (by (with_reducible repeat (first | refine blk_drewN ?_ _ | refine blk_drew ?_ | refine blk_alloc ?_ _)); exact BK131.out) hb); have n1_ := Aside0.mk (below_step (by repeat (first | (with_reducible first | exact HB.out | apply below_alloc | apply pw_below_drewN | apply below_drew1 | refine below_set ?_ GE131.out) | exact HB.out)) hb); clear BK131; clear HB; have BK131 := n0_; have HB := n1_; clear n0_ n1_; (try clear hb); (try clear hb2); (try clear hk); (try clear hi)))
 (try simp only [Act.put, List.setIfInBounds_toArray, List.set_cons_zero, List.set_cons_succ])
 go_cut [33] (fun v33 wc => ∃ (kq : Nat) (x33_5 : Bool), v33 = .bool x33_5 ∧ Aside0 (observatorylaw24_CadenceReplays.j0 kq l1 a2 a3 t132 x33_5 l0_0 a0_1 = some r) ∧ Aside0 (kq ≤ k) ∧ Aside0 (wc.heap[gb131]? = some (.cells #[(.slice A0_0 l0_0.length c0_0), .int .i64 a0_1] 24 (0, 0))) ∧ Aside0 (Below w.heap.size w wc))
 case first =>
  have H := HC6.out; clear HC6; replace H := Option.bind_eq_some_iff.mp H
  obtain ⟨t133, A90, H⟩ := H
  replace H : (if t133 = true then (observatorylaw24_CadenceReplays.j0 k l1 a2 a3 t132 (decide ((l1.length : Int) > 200)) l0_0 a0_1) else (observatorylaw24_CadenceReplays.j0 k l1 a2 a3 t132 true l0_0 a0_1)) = some r := H; have A9 := Aside0.mk A90; clear A90
  by_cases c10 : t133 = true
  ·subst c10
   have H1 : (observatorylaw24_CadenceReplays.j0 k l1 a2 a3 t132 (decide ((l1.length : Int) > 200)) l0_0 a0_1) = some r := by rw [if_pos rfl] at H; exact H
   clear H; have H := H1; clear H1; have H' := Aside0.mk H; clear H; have hcz11_0 : w8.cell? ⟨gb131, 0, none⟩ = some (.slice A0_0 l0_0.length c0_0) := (blk_cell BK131.out 0).trans rfl; have hcz11_1 : w8.cell? ⟨gb131, 1, none⟩ = some (.int .i64 a0_1) := (blk_cell BK131.out 1).trans rfl; have hfz11_0 := blk_frozen BK131.out 0; have hfz11_1 := blk_frozen BK131.out 1
   go_wp2_with (first | ((with_reducible refine gate_callee (f := 10) rfl ?_); refine goesL_ (some 27) rfl rfl Try.func10 (by kernel_rfl) rfl #[.agg #[.slice A0_0 l0_0.length c0_0, .int .i64 a0_1]] rfl (by (try simp only [List.map_toArray, List.map_cons, List.map_nil]); first | done | rfl | (simp only [List.length_drop, List.length_take]; rfl)) ?_; (with_reducible refine (observatoryref24_Few.calls _ _ l0_0 a0_1 true _ ?side1 ?side2 A9.out).mono ?_); (case side1 => repeat (first | exact (Kd.C_below HR0_0.out HB.out) | (with_reducible refine Kd.C_alloc ?_ _) | (with_reducible refine Kd.C_drewN ?_ _) | (with_reducible refine Kd.C_drew ?_))); (case side2 => exact HC0_0.out); rintro e w12 ⟨rfl, hb⟩; refine ⟨_, rfl, ?_⟩; have n0_ := Aside0.mk (blk_below (g := gb131) (o := .cells #[.slice A0_0 l0_0.length c0_0, .int .i64 a0_1] 24 (0, 0)) (by (with_reducible repeat (first | refine blk_drewN ?_ _ | refine blk_drew ?_ | refine blk_alloc ?_ _)); exact BK131.out) hb); have n1_ := Aside0.mk (below_step (by repeat (first | (with_reducible first | exact HB.out | apply below_alloc | apply pw_below_drewN | apply below_drew1 | refine below_set ?_ GE131.out) | exact HB.out)) hb); clear BK131; clear HB; have BK131 := n0_; have HB := n1_; clear n0_ n1_; (try clear hb); (try clear hb2); (try clear hk); (try clear hi)))
   go_meet
   case rel => exact ⟨_, (decide ((l1.length : Int) > 200)), (by first | rfl | (simp; done) | (simp [*]; done)), H', ⟨by first | omega | exact Nat.le_refl _⟩, ⟨by (with_reducible repeat (first | refine blk_drewN ?_ _ | refine blk_drew ?_ | refine blk_alloc ?_ _)); exact BK131.out⟩, ⟨by repeat (first | (with_reducible first | exact HB.out | apply below_alloc | apply pw_below_drewN | apply below_drew1 | refine below_set ?_ GE131.out) | exact HB.out)⟩⟩
  ·replace c10 := Bool.eq_false_iff.mpr c10
   subst c10
   have H1 : (observatorylaw24_CadenceReplays.j0 k l1 a2 a3 t132 true l0_0 a0_1) = some r := by rw [if_neg (show ¬ (false = true) by decide)] at H; exact H
   clear H; have H := H1; clear H1; have H' := Aside0.mk H; clear H; have hcz13_0 : w8.cell? ⟨gb131, 0, none⟩ = some (.slice A0_0 l0_0.length c0_0) := (blk_cell BK131.out 0).trans rfl; have hcz13_1 : w8.cell? ⟨gb131, 1, none⟩ = some (.int .i64 a0_1) := (blk_cell BK131.out 1).trans rfl; have hfz13_0 := blk_frozen BK131.out 0; have hfz13_1 := blk_frozen BK131.out 1
   go_wp2_with (first | ((with_reducible refine gate_callee (f := 10) rfl ?_); refine goesL_ (some 27) rfl rfl Try.func10 (by kernel_rfl) rfl #[.agg #[.slice A0_0 l0_0.length c0_0, .int .i64 a0_1]] rfl (by (try simp only [List.map_toArray, List.map_cons, List.map_nil]); first | done | rfl | (simp only [List.length_drop, List.length_take]; rfl)) ?_; (with_reducible refine (observatoryref24_Few.calls _ _ l0_0 a0_1 false _ ?side1 ?side2 A9.out).mono ?_); (case side1 => repeat (first | exact (Kd.C_below HR0_0.out HB.out) | (with_reducible refine Kd.C_alloc ?_ _) | (with_reducible refine Kd.C_drewN ?_ _) | (with_reducible refine Kd.C_drew ?_))); (case side2 => exact HC0_0.out); rintro e w14 ⟨rfl, hb⟩; refine ⟨_, rfl, ?_⟩; have n0_ := Aside0.mk (blk_below (g := gb131) (o := .cells #[.slice A0_0 l0_0.length c0_0, .int .i64 a0_1] 24 (0, 0)) (by (with_reducible repeat (first | refine blk_drewN ?_ _ | refine blk_drew ?_ | refine blk_alloc ?_ _)); exact BK131.out) hb); have n1_ := Aside0.mk (below_step (by repeat (first | (with_reducible first | exact HB.out | apply below_alloc | apply pw_below_drewN | apply below_drew1 | refine below_set ?_ GE131.out) | exact HB.out)) hb); clear BK131; clear HB; have BK131 := n0_; have HB := n1_; clear n0_ n1_; (try clear hb); (try clear hb2); (try clear hk); (try clear hi)))
   go_meet
   case rel => exact ⟨_, (true), (by first | rfl | (simp; done) | (simp [*]; done)), H', ⟨by first | omega | exact Nat.le_refl _⟩, ⟨by (with_reducible repeat (first | refine blk_drewN ?_ _ | refine blk_drew ?_ | refine blk_alloc ?_ _)); exact BK131.out⟩, ⟨by repeat (first | (with_reducible first | exact HB.out | apply below_alloc | apply pw_below_drewN | apply below_drew1 | refine below_set ?_ GE131.out) | exact HB.out)⟩⟩
 case rest =>
  clear HC6; try clear c1; try clear p2; try clear c8; try clear c9; try clear c10; try clear hcz11_0; try clear hcz11_1; try clear hcz13_0; try clear hcz13_1; try clear hfz11_0; try clear hfz11_1; try clear hfz13_0; try clear hfz13_1
  obtain ⟨kq, x33_5, rfl, HA, HJ5, BK131, HB⟩ := hcut
  cases kq with
  | zero => exact absurd HA.out (by simp [observatorylaw24_CadenceReplays.j0])
  | succ kj5 =>
   have H := HA.out; clear HA
   simp only [observatorylaw24_CadenceReplays.j0] at H
   by_cases c15 : x33_5 = true
   ·subst c15
    have H1 : (some t132) = some r := by rw [if_pos rfl] at H; exact H
    clear H; have H := H1; clear H1; obtain rfl := Option.some.inj H
    go_wp2
    go_ret
    exact ⟨by first | rfl | (simp [errW_none, errW_some] <;> rfl) | (simp [*, errW_none, errW_some] <;> rfl), by repeat (first | (with_reducible first | exact HB.out | apply below_alloc | apply pw_below_drewN | apply below_drew1 | refine below_set ?_ GE131.out) | exact HB.out)⟩
   ·replace c15 := Bool.eq_false_iff.mpr c15
    subst c15
    have H1 : ((cadence_Replay.f kj5 l0_0 a0_1 l1).bind fun bt134 => (if bt134.2.2.2.2.2 = 0 then (if (wrap64 ((l1.length : Int) + 1)) = 0 then (none) else (if 0 ≤ (Int.tmod (wrap64 (a3)) (wrap64 ((l1.length : Int) + 1))) then (if (Int.tmod (wrap64 (a3)) (wrap64 ((l1.length : Int) + 1))) ≤ (l1.length : Int) then ((cadence_Replay.f kj5 l0_0 a0_1 (l1.take ((Int.tmod (wrap64 (a3)) (wrap64 ((l1.length : Int) + 1))) : Int).toNat)).bind fun bt142 => (if bt134.2.2.2.2.1 = (l1.length : Int) then (if bt142.2.2.2.2.2 = 0 then (if bt142.2.2.2.2.1 = (Int.tmod (wrap64 (a3)) (wrap64 ((l1.length : Int) + 1))) then (observatorylaw24_CadenceReplays.j1 kj5 l1 a2 t132 ((l0_0.length : Int) == 0) l0_0 a0_1 bt134.1 bt134.2.1 bt134.2.2.1 bt134.2.2.2.1) else (observatorylaw24_CadenceReplays.j1 kj5 l1 a2 t132 true l0_0 a0_1 bt134.1 bt134.2.1 bt134.2.2.1 bt134.2.2.2.1)) else (observatorylaw24_CadenceReplays.j1 kj5 l1 a2 t132 true l0_0 a0_1 bt134.1 bt134.2.1 bt134.2.2.1 bt134.2.2.2.1)) else (observatorylaw24_CadenceReplays.j1 kj5 l1 a2 t132 true l0_0 a0_1 bt134.1 bt134.2.1 bt134.2.2.1 bt134.2.2.2.1))) else (none)) else (none))) else (if t132 = true then (if (bt134.1 == 0 && (bt134.2.1 == 0 && (bt134.2.2.1 == 0 && (!bt134.2.2.2.1)))) = true then (if bt134.2.2.2.2.1 ≥ 0 then (some (decide (bt134.2.2.2.2.1 ≤ (l1.length : Int)))) else (some false)) else (some false)) else (some false)))) = some r := by rw [if_neg (show ¬ (false = true) by decide)] at H; exact H
    clear H; have H := H1; clear H1; replace H := Option.bind_eq_some_iff.mp H
    obtain ⟨⟨t134, t135, t136, t137, t138, t139⟩, A160, H⟩ := H
    replace H : (if t139 = 0 then (if (wrap64 ((l1.length : Int) + 1)) = 0 then (none) else (if 0 ≤ (Int.tmod (wrap64 (a3)) (wrap64 ((l1.length : Int) + 1))) then (if (Int.tmod (wrap64 (a3)) (wrap64 ((l1.length : Int) + 1))) ≤ (l1.length : Int) then ((cadence_Replay.f kj5 l0_0 a0_1 (l1.take ((Int.tmod (wrap64 (a3)) (wrap64 ((l1.length : Int) + 1))) : Int).toNat)).bind fun bt142 => (if t138 = (l1.length : Int) then (if bt142.2.2.2.2.2 = 0 then (if bt142.2.2.2.2.1 = (Int.tmod (wrap64 (a3)) (wrap64 ((l1.length : Int) + 1))) then (observatorylaw24_CadenceReplays.j1 kj5 l1 a2 t132 ((l0_0.length : Int) == 0) l0_0 a0_1 t134 t135 t136 t137) else (observatorylaw24_CadenceReplays.j1 kj5 l1 a2 t132 true l0_0 a0_1 t134 t135 t136 t137)) else (observatorylaw24_CadenceReplays.j1 kj5 l1 a2 t132 true l0_0 a0_1 t134 t135 t136 t137)) else (observatorylaw24_CadenceReplays.j1 kj5 l1 a2 t132 true l0_0 a0_1 t134 t135 t136 t137))) else (none)) else (none))) else (if t132 = true then (if (t134 == 0 && (t135 == 0 && (t136 == 0 && (!t137)))) = true then (if t138 ≥ 0 then (some (decide (t138 ≤ (l1.length : Int)))) else (some false)) else (some false)) else (some false))) = some r := H; have A16 := Aside0.mk A160; clear A160
    by_cases c17 : t139 = 0
    ·rw [if_pos c17] at H
     have c17b0 : (t139 == 0) = true := beq_iff_eq.mpr c17; have c17b1 : (t139 != 0) = false := bne_eq_false_iff_eq.mpr c17; clear c17
     by_cases c18 : (wrap64 ((l1.length : Int) + 1)) = 0
     ·rw [if_pos c18] at H
      exact absurd H (by simp)
     ·rw [if_neg c18] at H
      have c18b0 : ((wrap64 ((l1.length : Int) + 1)) == 0) = false := beq_eq_false_iff_ne.mpr c18; have c18b1 : ((wrap64 ((l1.length : Int) + 1)) != 0) = true := bne_iff_ne.mpr c18
      obtain ⟨ji19, hji19⟩ : ∃ j_ : Int, (Int.tmod (wrap64 (a3)) (wrap64 ((l1.length : Int) + 1))) = j_ := ⟨_, rfl⟩
      replace H : (if 0 ≤ (ji19) then (if (ji19) ≤ (l1.length : Int) then ((cadence_Replay.f kj5 l0_0 a0_1 (l1.take ((ji19) : Int).toNat)).bind fun bt142 => (if t138 = (l1.length : Int) then (if bt142.2.2.2.2.2 = 0 then (if bt142.2.2.2.2.1 = (ji19) then (observatorylaw24_CadenceReplays.j1 kj5 l1 a2 t132 ((l0_0.length : Int) == 0) l0_0 a0_1 t134 t135 t136 t137) else (observatorylaw24_CadenceReplays.j1 kj5 l1 a2 t132 true l0_0 a0_1 t134 t135 t136 t137)) else (observatorylaw24_CadenceReplays.j1 kj5 l1 a2 t132 true l0_0 a0_1 t134 t135 t136 t137)) else (observatorylaw24_CadenceReplays.j1 kj5 l1 a2 t132 true l0_0 a0_1 t134 t135 t136 t137))) else (none)) else (none)) = some r := by first | (rw [hji19] at H; exact H) | (simp only [hji19] at H ⊢; exact H)
      (try rw [hji19] at A16)
      by_cases c20 : 0 ≤ (ji19)
      ·rw [if_pos c20] at H
       have c20b0 := eq_true c20; have c20b1 : decide (0 ≤ (ji19)) = true := decide_eq_true c20; clear c20
       by_cases c21 : (ji19) ≤ (l1.length : Int)
       ·rw [if_pos c21] at H
        have c21b0 := eq_true c21; have c21b1 : decide ((ji19) ≤ (l1.length : Int)) = true := decide_eq_true c21; clear c21; replace H := Option.bind_eq_some_iff.mp H
        obtain ⟨⟨t142, t143, t144, t145, t146, t147⟩, A220, H⟩ := H
        replace H : (if t138 = (l1.length : Int) then (if t147 = 0 then (if t146 = (ji19) then (observatorylaw24_CadenceReplays.j1 kj5 l1 a2 t132 ((l0_0.length : Int) == 0) l0_0 a0_1 t134 t135 t136 t137) else (observatorylaw24_CadenceReplays.j1 kj5 l1 a2 t132 true l0_0 a0_1 t134 t135 t136 t137)) else (observatorylaw24_CadenceReplays.j1 kj5 l1 a2 t132 true l0_0 a0_1 t134 t135 t136 t137)) else (observatorylaw24_CadenceReplays.j1 kj5 l1 a2 t132 true l0_0 a0_1 t134 t135 t136 t137)) = some r := H; have A22 := Aside0.mk A220; clear A220; have HC23 := Aside0.mk H; clear H; have hcz24_0 : wc.cell? ⟨gb131, 0, none⟩ = some (.slice A0_0 l0_0.length c0_0) := (blk_cell BK131.out 0).trans rfl; have hcz24_1 : wc.cell? ⟨gb131, 1, none⟩ = some (.int .i64 a0_1) := (blk_cell BK131.out 1).trans rfl; have hfz24_0 := blk_frozen BK131.out 0; have hfz24_1 := blk_frozen BK131.out 1
        try go_wp2_with (first | ((with_reducible refine gate_callee (f := 11) rfl ?_); refine goesL_ (some 38) rfl rfl Try.func11 (by kernel_rfl) rfl #[.agg #[.slice A0_0 l0_0.length c0_0, .int .i64 a0_1], .slice A1 l1.length c1] rfl (by (try simp only [List.map_toArray, List.map_cons, List.map_nil]); first | done | rfl | (simp only [List.length_drop, List.length_take]; rfl)) ?_; (with_reducible refine (cadence_Replay.calls kj5 _ _ l0_0 a0_1 _ _ l1 t134 t135 t136 t137 t138 t139 _ ?side1 ?side2 ?side3 ?side4 A16.out).mono ?_); (case side1 => repeat (first | exact (Kd.C_below HR0_0.out HB.out) | (with_reducible refine Kd.C_alloc ?_ _) | (with_reducible refine Kd.C_drewN ?_ _) | (with_reducible refine Kd.C_drew ?_))); (case side2 => exact HC0_0.out); (case side3 => repeat (first | exact (Kd.C_below HR1.out HB.out) | (with_reducible refine Kd.C_alloc ?_ _) | (with_reducible refine Kd.C_drewN ?_ _) | (with_reducible refine Kd.C_drew ?_))); (case side4 => exact HC1.out); rintro e w25 ⟨rfl, hb⟩; refine ⟨_, rfl, ?_⟩; have n0_ := Aside0.mk (blk_below (g := gb131) (o := .cells #[.slice A0_0 l0_0.length c0_0, .int .i64 a0_1] 24 (0, 0)) (by (with_reducible repeat (first | refine blk_drewN ?_ _ | refine blk_drew ?_ | refine blk_alloc ?_ _)); exact BK131.out) hb); have n1_ := Aside0.mk (below_step (by repeat (first | (with_reducible first | exact HB.out | apply below_alloc | apply pw_below_drewN | apply below_drew1 | refine below_set ?_ GE131.out) | exact HB.out)) hb); clear BK131; clear HB; have BK131 := n0_; have HB := n1_; clear n0_ n1_; (try clear hb); (try clear hb2); (try clear hk); (try clear hi)) | ((with_reducible refine gate_dst (N := 10) rfl ?_); (try (refine gate_guard (by rfl) ?_; dsimp only)); refine box_event ?hg (N := 10) ?hd (cs := #[.int .i64 0, .int .i64 0, .int .i64 0, .bool false]) (t := 30) ?hr ?_; (case hd => rfl); (case hg => rfl); (case hr => first | (go_simp; done) | (go_simp; rfl)); intro gb140 hg w26 hbox hb; have n0_ := Aside0.mk (blk_below (g := gb131) (o := .cells #[.slice A0_0 l0_0.length c0_0, .int .i64 a0_1] 24 (0, 0)) (by (with_reducible repeat (first | refine blk_drewN ?_ _ | refine blk_drew ?_ | refine blk_alloc ?_ _)); exact BK131.out) hb); have n1_ := Aside0.mk (below_step (by repeat (first | (with_reducible first | exact HB.out | apply below_alloc | apply pw_below_drewN | apply below_drew1 | refine below_set ?_ GE131.out) | exact HB.out)) hb); have n2_ := Aside0.mk (hbox); have n3_ := Aside0.mk ((by rw [hg]; exact (below_size (by repeat (first | (with_reducible first | exact HB.out | apply below_alloc | apply pw_below_drewN | apply below_drew1 | refine below_set ?_ GE131.out) | exact HB.out))) : w.heap.size ≤ gb140)); have n4_ := Aside0.mk ((by rw [hg]; exact (below_size (by repeat (first | (with_reducible first | exact HB.out | apply below_alloc | apply pw_below_drewN | apply below_drew1 | refine below_set ?_ GE131.out) | exact HB.out))) : w.heap.size ≤ gb140)); have n5_ := Aside0.mk ((by rw [hg]; exact Nat.ne_of_lt (blk_lt (g := gb131) (o := .cells #[.slice A0_0 l0_0.length c0_0, .int .i64 a0_1] 24 (0, 0)) (by (with_reducible repeat (first | refine blk_drewN ?_ _ | refine blk_drew ?_ | refine blk_alloc ?_ _)); exact BK131.out)) : gb131 ≠ gb140)); have n6_ := Aside0.mk ((by rw [hg]; exact Nat.ne_of_gt (blk_lt (g := gb131) (o := .cells #[.slice A0_0 l0_0.length c0_0, .int .i64 a0_1] 24 (0, 0)) (by (with_reducible repeat (first | refine blk_drewN ?_ _ | refine blk_drew ?_ | refine blk_alloc ?_ _)); exact BK131.out)) : gb140 ≠ gb131)); clear BK131; clear HB; have BK131 := n0_; have HB := n1_; have BK140 := n2_; have GW140 := n3_; have GE140 := n4_; have NB131_140 := n5_; have NB140_131 := n6_; clear n0_ n1_ n2_ n3_ n4_ n5_ n6_; clear hb hbox hg; have hnb27 := NB140_131.out; have hnc27 := NB131_140.out; have hcz28_0 : w26.cell? ⟨gb140, 0, none⟩ = some (.int .i64 0) := (blk_cell BK140.out 0).trans rfl; have hcz28_1 : w26.cell? ⟨gb140, 1, none⟩ = some (.int .i64 0) := (blk_cell BK140.out 1).trans rfl; have hcz28_2 : w26.cell? ⟨gb140, 2, none⟩ = some (.int .i64 0) := (blk_cell BK140.out 2).trans rfl; have hcz28_3 : w26.cell? ⟨gb140, 3, none⟩ = some (.bool false) := (blk_cell BK140.out 3).trans rfl; have hfz28_0 := blk_frozen BK140.out 0; have hfz28_1 := blk_frozen BK140.out 1; have hfz28_2 := blk_frozen BK140.out 2; have hfz28_3 := blk_frozen BK140.out 3))
        have n0_ : Aside0 (((((w26.setCell ⟨gb140, 0, none⟩ (.int .i64 t134)).setCell ⟨gb140, 1, none⟩ (.int .i64 t135)).setCell ⟨gb140, 2, none⟩ (.int .i64 t136)).setCell ⟨gb140, 3, none⟩ (.bool t137)).heap[gb131]? = some (.cells #[.slice A0_0 l0_0.length c0_0, .int .i64 a0_1] 24 (0, 0))) := ⟨by (with_reducible repeat (first | refine blk_drewN ?_ _ | refine blk_drew ?_ | refine blk_alloc ?_ _)); refine blk_far ?_ NB131_140.out _; (with_reducible repeat (first | refine blk_drewN ?_ _ | refine blk_drew ?_ | refine blk_alloc ?_ _)); refine blk_far ?_ NB131_140.out _; (with_reducible repeat (first | refine blk_drewN ?_ _ | refine blk_drew ?_ | refine blk_alloc ?_ _)); refine blk_far ?_ NB131_140.out _; (with_reducible repeat (first | refine blk_drewN ?_ _ | refine blk_drew ?_ | refine blk_alloc ?_ _)); refine blk_far ?_ NB131_140.out _; (with_reducible repeat (first | refine blk_drewN ?_ _ | refine blk_drew ?_ | refine blk_alloc ?_ _)); exact BK131.out⟩; have n1_ : Aside0 (((((w26.setCell ⟨gb140, 0, none⟩ (.int .i64 t134)).setCell ⟨gb140, 1, none⟩ (.int .i64 t135)).setCell ⟨gb140, 2, none⟩ (.int .i64 t136)).setCell ⟨gb140, 3, none⟩ (.bool t137)).heap[gb140]? = some (.cells #[.int .i64 t134, .int .i64 t135, .int .i64 t136, .bool t137] 30 (0, 0))) := ⟨by (with_reducible repeat (first | refine blk_drewN ?_ _ | refine blk_drew ?_ | refine blk_alloc ?_ _)); refine blk_put (cs := #[.int .i64 t134, .int .i64 t135, .int .i64 t136, .bool false]) ?_ 3 _ rfl; (with_reducible repeat (first | refine blk_drewN ?_ _ | refine blk_drew ?_ | refine blk_alloc ?_ _)); refine blk_put (cs := #[.int .i64 t134, .int .i64 t135, .int .i64 0, .bool false]) ?_ 2 _ rfl; (with_reducible repeat (first | refine blk_drewN ?_ _ | refine blk_drew ?_ | refine blk_alloc ?_ _)); refine blk_put (cs := #[.int .i64 t134, .int .i64 0, .int .i64 0, .bool false]) ?_ 1 _ rfl; (with_reducible repeat (first | refine blk_drewN ?_ _ | refine blk_drew ?_ | refine blk_alloc ?_ _)); refine blk_put (cs := #[.int .i64 0, .int .i64 0, .int .i64 0, .bool false]) ?_ 0 _ rfl; (with_reducible repeat (first | refine blk_drewN ?_ _ | refine blk_drew ?_ | refine blk_alloc ?_ _)); exact BK140.out⟩
        have n2_ : Aside0 (Below w.heap.size w ((((w26.setCell ⟨gb140, 0, none⟩ (.int .i64 t134)).setCell ⟨gb140, 1, none⟩ (.int .i64 t135)).setCell ⟨gb140, 2, none⟩ (.int .i64 t136)).setCell ⟨gb140, 3, none⟩ (.bool t137))) := ⟨by repeat (first | (with_reducible first | exact HB.out | apply below_alloc | apply pw_below_drewN | apply below_drew1 | refine below_set ?_ GE131.out | refine below_set ?_ GE140.out) | exact HB.out)⟩
        (try clear BK131)
        (try clear BK140)
        (try clear HB)
        generalize ((((w26.setCell ⟨gb140, 0, none⟩ (.int .i64 t134)).setCell ⟨gb140, 1, none⟩ (.int .i64 t135)).setCell ⟨gb140, 2, none⟩ (.int .i64 t136)).setCell ⟨gb140, 3, none⟩ (.bool t137)) = w29 at n0_ n1_ n2_ ⊢
        have BK131 := n0_; have BK140 := n1_; have HB := n2_; clear n0_ n1_ n2_; have n0_ := Aside0.mk (blk_drew BK131.out); have n1_ := Aside0.mk (blk_drew BK140.out); have n2_ := Aside0.mk (below_drew1 HB.out); clear BK131; clear BK140; clear HB; have BK131 := n0_; have BK140 := n1_; have HB := n2_; clear n0_ n1_ n2_
        obtain ⟨i031, hi031, _, hsz31, _⟩ := info_parts info3
        obtain ⟨hcut31, hA31, hC31⟩ := print_take_of (P := Try.prog) (Value.int .i64) 0 25 3 .i64 Try.underlying25 hi031 hsz31 A1 c1 l1 (ji19) (of_decide_eq_true (by first | (with_reducible assumption) | assumption)) (of_decide_eq_true (by first | (with_reducible assumption) | assumption)) HC1.out
        have HR141 := Aside0.mk (Kd.C_of_reads (h1 := fun _ => rfl) (hA31 _ (Kd.reads_of_C HR1.out))); have HC141 := Aside0.mk hC31; clear hA31 hC31 hi031 hsz31
        refine start_ (n := 13) (S := fun w' => w'.cell? ⟨gb131, 0, none⟩ = some (.slice A0_0 l0_0.length c0_0) ∧ w'.cell? ⟨gb131, 1, none⟩ = some (.int .i64 a0_1)) (ds := []) #[false, false, false, false, false, false, false, false, false, false, false, false, false] (by kernel_rfl) rfl rfl ⟨(blk_cell BK131.out 0).trans rfl, (blk_cell BK131.out 1).trans rfl⟩ (fun hHeld => ?_); refine with_tabW observatorylaw24_CadenceReplays.tab8 observatorylaw24_CadenceReplays.bits8 (fun HT_ HW_ => ?_)
        generalize w29.drew = w30 at BK131 BK140 HB HR141 hHeld ⊢
        refine pure_ (i := 1) (N := some 68) (v := ?_) (a' := ?_) #[false, true, false, false, false, false, false, false, false, false, false, false, false] rfl rfl (any_of HT_.out (by kernel_rfl)) (fun _ _ _ h => h) (Or.inl ⟨by rfl, ?_⟩) ?_ ?_
        rotate_left
        ·intro w'
         go_simp
         with_reducible rfl
        rotate_left
        ·simp only [Act.put, List.setIfInBounds_toArray, List.set_cons_zero, List.set_cons_succ, i64_w, i32_w]
         rfl
        refine pure_ (i := 2) (N := some 69) (v := ?_) (a' := ?_) #[false, true, true, false, false, false, false, false, false, false, false, false, false] rfl rfl (any_of HT_.out (by kernel_rfl)) (fun _ _ _ h => h) (Or.inl ⟨by rfl, ?_⟩) ?_ ?_
        rotate_left
        ·intro w'
         go_simp
         with_reducible rfl
        rotate_left
        ·simp only [Act.put, List.setIfInBounds_toArray, List.set_cons_zero, List.set_cons_succ, i64_w, i32_w]
         rfl
        refine pure_ (i := 3) (N := some 70) (v := ?_) (a' := ?_) #[false, true, true, true, false, false, false, false, false, false, false, false, false] rfl rfl (any_of HT_.out (by kernel_rfl)) (fun _ _ _ h => h) (Or.inl ⟨by rfl, ?_⟩) ?_ ?_
        rotate_left
        ·intro w'
         go_simp
         with_reducible rfl
        rotate_left
        ·simp only [Act.put, List.setIfInBounds_toArray, List.set_cons_zero, List.set_cons_succ, i64_w, i32_w]
         rfl
        refine take_ (i := 0) (N := some 67) (v := ?_) (a' := ?_) #[true, true, true, true, false, false, false, false, false, false, false, false, false] rfl rfl (take_ofW HT_.out HW_.out (by kernel_rfl)) (fun _ _ _ h => h) (Or.inl ⟨by rfl, ?_⟩) hHeld ?_ ?_
        rotate_left
        ·rintro w' ⟨s0, s1⟩
         go_simp
         with_reducible rfl
        rotate_left
        ·simp only [Act.put, List.setIfInBounds_toArray, List.set_cons_zero, List.set_cons_succ, i64_w, i32_w]
         rfl
        refine join_ (σ := Nat) 3 #[true, true, true, true, true, true, true, true, true, true, false, false, false] (fun s_ => [(71, .tuple #[.agg #[.int .i64 t142, .int .i64 t143, .int .i64 t144, .bool t145], .int .i64 t146, .int .i64 t147]), (14, .pointer (some ⟨s_, 0, none⟩)), (66, .tuple #[.agg #[.int .i64 t142, .int .i64 t143, .int .i64 t144, .bool t145], .int .i64 t146, .int .i64 t147]), (72, .agg #[.int .i64 t142, .int .i64 t143, .int .i64 t144, .bool t145]), (73, .int .i64 t146), (74, .int .i64 t147)]) (fun s_ w' => (w'.cell? ⟨gb131, 0, none⟩ = some (.slice A0_0 l0_0.length c0_0) ∧ w'.cell? ⟨gb131, 1, none⟩ = some (.int .i64 a0_1)) ∧ (w'.heap[gb131]? = some (.cells #[.slice A0_0 l0_0.length c0_0, .int .i64 a0_1] 24 (0, 0))) ∧ (w'.heap[gb140]? = some (.cells #[.int .i64 t134, .int .i64 t135, .int .i64 t136, .bool t137] 30 (0, 0))) ∧ (w'.heap[s_]? = some (.cells #[.int .i64 0, .int .i64 0, .int .i64 0, .bool false] 30 (0, 0))) ∧ (w.heap.size ≤ s_) ∧ (w.heap.size ≤ s_) ∧ (gb131 ≠ s_) ∧ (s_ ≠ gb131) ∧ (gb140 ≠ s_) ∧ (s_ ≠ gb140) ∧ (Below w.heap.size w w')) ?_ ?_
        rotate_left
        ·intro hCont
         refine two_ (i := 4) (j := 9) (Ni := some 71) (Nj := some 14) #[true, true, true, true, true, false, false, false, false, false, false, false, false] #[true, true, true, true, false, false, false, false, false, true, false, false, false] rfl rfl rfl rfl (two_of HT_.out (by kernel_rfl)) (by decide) (by decide) (fun K hK => ?_) (fun K hK => ?_)
         ·skip
          refine goes_ Try.func11 (by kernel_rfl) rfl #[.agg #[.slice A0_0 l0_0.length c0_0, .int .i64 a0_1], .slice A1 (l1.take ((ji19) : Int).toNat).length c1] (by rfl) rfl rfl (by (try simp only [List.map_toArray, List.map_cons, List.map_nil]); first | done | (rw [show (l1.take ((ji19) : Int).toNat).length = (ji19).toNat from (by rw [List.length_take]; have h_ : ((ji19) : Int) ≤ (l1.length : Int) := of_decide_eq_true (by first | (with_reducible assumption) | assumption); omega)] <;> rfl) | (simp only [hji19]; rfl) | rfl | (simp only [List.length_drop, List.length_take]; rfl)) ?_
          with_reducible refine (cadence_Replay.calls kj5 _ _ l0_0 a0_1 _ _ (l1.take ((ji19) : Int).toNat) t142 t143 t144 t145 t146 t147 _ ?side1 ?side2 ?side3 ?side4 A22.out).mono ?_
          (case side1 => repeat (first | exact (Kd.C_below HR0_0.out HB.out) | (with_reducible refine Kd.C_alloc ?_ _) | (with_reducible refine Kd.C_drewN ?_ _) | (with_reducible refine Kd.C_drew ?_)))
          (case side2 => exact HC0_0.out)
          (case side3 => repeat (first | exact (Kd.C_below HR141.out HB.out) | (with_reducible refine Kd.C_alloc ?_ _) | (with_reducible refine Kd.C_drewN ?_ _) | (with_reducible refine Kd.C_drew ?_)))
          (case side4 => exact HC141.out)
          rintro e w32 ⟨rfl, hb⟩
          refine ⟨_, rfl, ?_⟩
          have n0_ := Aside0.mk (blk_below (g := gb131) (o := .cells #[.slice A0_0 l0_0.length c0_0, .int .i64 a0_1] 24 (0, 0)) (by (with_reducible repeat (first | refine blk_drewN ?_ _ | refine blk_drew ?_ | refine blk_alloc ?_ _)); exact BK131.out) hb); have n1_ := Aside0.mk (blk_below (g := gb140) (o := .cells #[.int .i64 t134, .int .i64 t135, .int .i64 t136, .bool t137] 30 (0, 0)) (by (with_reducible repeat (first | refine blk_drewN ?_ _ | refine blk_drew ?_ | refine blk_alloc ?_ _)); exact BK140.out) hb); have n2_ := Aside0.mk (below_step (by repeat (first | (with_reducible first | exact HB.out | apply below_alloc | apply pw_below_drewN | apply below_drew1 | refine below_set ?_ GE131.out | refine below_set ?_ GE140.out) | exact HB.out)) hb); clear BK131; clear BK140; clear HB; have BK131 := n0_; have BK140 := n1_; have HB := n2_; clear n0_ n1_ n2_
          (try clear hb)
          (try clear hb2)
          (try clear hk)
          (try clear hi)
          refine hK.out _ _ ⟨(blk_cell BK131.out 0).trans rfl, (blk_cell BK131.out 1).trans rfl⟩ (fun hHeld => ?_)
          clear hK K
          refine norm_ (a' := ?_) ?_ ?_
          rotate_left
          ·show Act.put _ (some 71) _ = _
           simp only [Act.put, List.setIfInBounds_toArray, List.set_cons_zero, List.set_cons_succ, i64_w, i32_w]
           rfl
          refine pure_ (i := 5) (N := some 66) (v := ?_) (a' := ?_) #[true, true, true, true, true, true, false, false, false, false, false, false, false] rfl rfl (any_of HT_.out (by kernel_rfl)) (fun _ _ _ h => h) (Or.inl ⟨by rfl, ?_⟩) ?_ ?_
          rotate_left
          ·intro w'
           go_simp
           with_reducible rfl
          rotate_left
          ·simp only [Act.put, List.setIfInBounds_toArray, List.set_cons_zero, List.set_cons_succ, i64_w, i32_w]
           rfl
          refine pure_ (i := 6) (N := some 72) (v := ?_) (a' := ?_) #[true, true, true, true, true, true, true, false, false, false, false, false, false] rfl rfl (any_of HT_.out (by kernel_rfl)) (fun _ _ _ h => h) (Or.inl ⟨by rfl, ?_⟩) ?_ ?_
          rotate_left
          ·intro w'
           go_simp
           with_reducible rfl
          rotate_left
          ·simp only [Act.put, List.setIfInBounds_toArray, List.set_cons_zero, List.set_cons_succ, i64_w, i32_w]
           rfl
          refine pure_ (i := 7) (N := some 73) (v := ?_) (a' := ?_) #[true, true, true, true, true, true, true, true, false, false, false, false, false] rfl rfl (any_of HT_.out (by kernel_rfl)) (fun _ _ _ h => h) (Or.inl ⟨by rfl, ?_⟩) ?_ ?_
          rotate_left
          ·intro w'
           go_simp
           with_reducible rfl
          rotate_left
          ·simp only [Act.put, List.setIfInBounds_toArray, List.set_cons_zero, List.set_cons_succ, i64_w, i32_w]
           rfl
          refine pure_ (i := 8) (N := some 74) (v := ?_) (a' := ?_) #[true, true, true, true, true, true, true, true, true, false, false, false, false] rfl rfl (any_of HT_.out (by kernel_rfl)) (fun _ _ _ h => h) (Or.inl ⟨by rfl, ?_⟩) ?_ ?_
          rotate_left
          ·intro w'
           go_simp
           with_reducible rfl
          rotate_left
          ·simp only [Act.put, List.setIfInBounds_toArray, List.set_cons_zero, List.set_cons_succ, i64_w, i32_w]
           rfl
          refine one_ (i := 9) (N := some 14) #[true, true, true, true, true, true, true, true, true, true, false, false, false] rfl rfl (one_of HT_.out (by kernel_rfl)) (by decide) (fun K hK => ?_)
          refine box_step ?hg (N := 14) ?hd (cs := #[.int .i64 0, .int .i64 0, .int .i64 0, .bool false]) (t := 30) ?hr ?_; (case hd => rfl); (case hg => rfl); (case hr => first | (go_simp; done) | (go_simp; rfl))
          intro gb148 hg w33 hbox hb
          have n0_ := Aside0.mk (blk_below (g := gb131) (o := .cells #[.slice A0_0 l0_0.length c0_0, .int .i64 a0_1] 24 (0, 0)) (by (with_reducible repeat (first | refine blk_drewN ?_ _ | refine blk_drew ?_ | refine blk_alloc ?_ _)); exact BK131.out) hb); have n1_ := Aside0.mk (blk_below (g := gb140) (o := .cells #[.int .i64 t134, .int .i64 t135, .int .i64 t136, .bool t137] 30 (0, 0)) (by (with_reducible repeat (first | refine blk_drewN ?_ _ | refine blk_drew ?_ | refine blk_alloc ?_ _)); exact BK140.out) hb); have n2_ := Aside0.mk (below_step (by repeat (first | (with_reducible first | exact HB.out | apply below_alloc | apply pw_below_drewN | apply below_drew1 | refine below_set ?_ GE131.out | refine below_set ?_ GE140.out) | exact HB.out)) hb); have n3_ := Aside0.mk (hbox); have n4_ := Aside0.mk ((by rw [hg]; exact (below_size (by repeat (first | (with_reducible first | exact HB.out | apply below_alloc | apply pw_below_drewN | apply below_drew1 | refine below_set ?_ GE131.out | refine below_set ?_ GE140.out) | exact HB.out))) : w.heap.size ≤ gb148)); have n5_ := Aside0.mk ((by rw [hg]; exact (below_size (by repeat (first | (with_reducible first | exact HB.out | apply below_alloc | apply pw_below_drewN | apply below_drew1 | refine below_set ?_ GE131.out | refine below_set ?_ GE140.out) | exact HB.out))) : w.heap.size ≤ gb148)); have n6_ := Aside0.mk ((by rw [hg]; exact Nat.ne_of_lt (blk_lt (g := gb131) (o := .cells #[.slice A0_0 l0_0.length c0_0, .int .i64 a0_1] 24 (0, 0)) (by (with_reducible repeat (first | refine blk_drewN ?_ _ | refine blk_drew ?_ | refine blk_alloc ?_ _)); exact BK131.out)) : gb131 ≠ gb148))
          have n7_ := Aside0.mk ((by rw [hg]; exact Nat.ne_of_gt (blk_lt (g := gb131) (o := .cells #[.slice A0_0 l0_0.length c0_0, .int .i64 a0_1] 24 (0, 0)) (by (with_reducible repeat (first | refine blk_drewN ?_ _ | refine blk_drew ?_ | refine blk_alloc ?_ _)); exact BK131.out)) : gb148 ≠ gb131)); have n8_ := Aside0.mk ((by rw [hg]; exact Nat.ne_of_lt (blk_lt (g := gb140) (o := .cells #[.int .i64 t134, .int .i64 t135, .int .i64 t136, .bool t137] 30 (0, 0)) (by (with_reducible repeat (first | refine blk_drewN ?_ _ | refine blk_drew ?_ | refine blk_alloc ?_ _)); exact BK140.out)) : gb140 ≠ gb148)); have n9_ := Aside0.mk ((by rw [hg]; exact Nat.ne_of_gt (blk_lt (g := gb140) (o := .cells #[.int .i64 t134, .int .i64 t135, .int .i64 t136, .bool t137] 30 (0, 0)) (by (with_reducible repeat (first | refine blk_drewN ?_ _ | refine blk_drew ?_ | refine blk_alloc ?_ _)); exact BK140.out)) : gb148 ≠ gb140)); clear BK131; clear BK140; clear HB; have BK131 := n0_; have BK140 := n1_; have HB := n2_; have BK148 := n3_; have GW148 := n4_; have GE148 := n5_; have NB131_148 := n6_; have NB148_131 := n7_; have NB140_148 := n8_; have NB148_140 := n9_; clear n0_ n1_ n2_ n3_ n4_ n5_ n6_ n7_ n8_ n9_; clear hb hbox hg
          refine hK.out _ _ ⟨(blk_cell BK131.out 0).trans rfl, (blk_cell BK131.out 1).trans rfl⟩ (fun hHeld => ?_)
          clear hK K
          refine norm_ (a' := ?_) ?_ ?_
          rotate_left
          ·show Act.put _ (some 14) _ = _
           simp only [Act.put, List.setIfInBounds_toArray, List.set_cons_zero, List.set_cons_succ, i64_w, i32_w]
           rfl
          exact norm_ (by simp only [putAll, Act.put, List.setIfInBounds_toArray, List.set_cons_zero, List.set_cons_succ]) (hCont (gb148) _ ⟨hHeld, (by (with_reducible repeat (first | refine blk_drewN ?_ _ | refine blk_drew ?_ | refine blk_alloc ?_ _)); exact BK131.out), (by (with_reducible repeat (first | refine blk_drewN ?_ _ | refine blk_drew ?_ | refine blk_alloc ?_ _)); exact BK140.out), (by (with_reducible repeat (first | refine blk_drewN ?_ _ | refine blk_drew ?_ | refine blk_alloc ?_ _)); exact BK148.out), GW148.out, GE148.out, NB131_148.out, NB148_131.out, NB140_148.out, NB148_140.out, (by repeat (first | (with_reducible first | exact HB.out | apply below_alloc | apply pw_below_drewN | apply below_drew1 | refine below_set ?_ GE131.out | refine below_set ?_ GE140.out | refine below_set ?_ GE148.out) | exact HB.out))⟩)
         ·skip
          refine box_step ?hg (N := 14) ?hd (cs := #[.int .i64 0, .int .i64 0, .int .i64 0, .bool false]) (t := 30) ?hr ?_; (case hd => rfl); (case hg => rfl); (case hr => first | (go_simp; done) | (go_simp; rfl))
          intro gb148 hg w32 hbox hb
          have n0_ := Aside0.mk (blk_below (g := gb131) (o := .cells #[.slice A0_0 l0_0.length c0_0, .int .i64 a0_1] 24 (0, 0)) (by (with_reducible repeat (first | refine blk_drewN ?_ _ | refine blk_drew ?_ | refine blk_alloc ?_ _)); exact BK131.out) hb); have n1_ := Aside0.mk (blk_below (g := gb140) (o := .cells #[.int .i64 t134, .int .i64 t135, .int .i64 t136, .bool t137] 30 (0, 0)) (by (with_reducible repeat (first | refine blk_drewN ?_ _ | refine blk_drew ?_ | refine blk_alloc ?_ _)); exact BK140.out) hb); have n2_ := Aside0.mk (below_step (by repeat (first | (with_reducible first | exact HB.out | apply below_alloc | apply pw_below_drewN | apply below_drew1 | refine below_set ?_ GE131.out | refine below_set ?_ GE140.out) | exact HB.out)) hb); have n3_ := Aside0.mk (hbox); have n4_ := Aside0.mk ((by rw [hg]; exact (below_size (by repeat (first | (with_reducible first | exact HB.out | apply below_alloc | apply pw_below_drewN | apply below_drew1 | refine below_set ?_ GE131.out | refine below_set ?_ GE140.out) | exact HB.out))) : w.heap.size ≤ gb148)); have n5_ := Aside0.mk ((by rw [hg]; exact (below_size (by repeat (first | (with_reducible first | exact HB.out | apply below_alloc | apply pw_below_drewN | apply below_drew1 | refine below_set ?_ GE131.out | refine below_set ?_ GE140.out) | exact HB.out))) : w.heap.size ≤ gb148)); have n6_ := Aside0.mk ((by rw [hg]; exact Nat.ne_of_lt (blk_lt (g := gb131) (o := .cells #[.slice A0_0 l0_0.length c0_0, .int .i64 a0_1] 24 (0, 0)) (by (with_reducible repeat (first | refine blk_drewN ?_ _ | refine blk_drew ?_ | refine blk_alloc ?_ _)); exact BK131.out)) : gb131 ≠ gb148))
          have n7_ := Aside0.mk ((by rw [hg]; exact Nat.ne_of_gt (blk_lt (g := gb131) (o := .cells #[.slice A0_0 l0_0.length c0_0, .int .i64 a0_1] 24 (0, 0)) (by (with_reducible repeat (first | refine blk_drewN ?_ _ | refine blk_drew ?_ | refine blk_alloc ?_ _)); exact BK131.out)) : gb148 ≠ gb131)); have n8_ := Aside0.mk ((by rw [hg]; exact Nat.ne_of_lt (blk_lt (g := gb140) (o := .cells #[.int .i64 t134, .int .i64 t135, .int .i64 t136, .bool t137] 30 (0, 0)) (by (with_reducible repeat (first | refine blk_drewN ?_ _ | refine blk_drew ?_ | refine blk_alloc ?_ _)); exact BK140.out)) : gb140 ≠ gb148)); have n9_ := Aside0.mk ((by rw [hg]; exact Nat.ne_of_gt (blk_lt (g := gb140) (o := .cells #[.int .i64 t134, .int .i64 t135, .int .i64 t136, .bool t137] 30 (0, 0)) (by (with_reducible repeat (first | refine blk_drewN ?_ _ | refine blk_drew ?_ | refine blk_alloc ?_ _)); exact BK140.out)) : gb148 ≠ gb140)); clear BK131; clear BK140; clear HB; have BK131 := n0_; have BK140 := n1_; have HB := n2_; have BK148 := n3_; have GW148 := n4_; have GE148 := n5_; have NB131_148 := n6_; have NB148_131 := n7_; have NB140_148 := n8_; have NB148_140 := n9_; clear n0_ n1_ n2_ n3_ n4_ n5_ n6_ n7_ n8_ n9_; clear hb hbox hg
          refine hK.out _ _ ⟨(blk_cell BK131.out 0).trans rfl, (blk_cell BK131.out 1).trans rfl⟩ (fun hHeld => ?_)
          clear hK K
          refine norm_ (a' := ?_) ?_ ?_
          rotate_left
          ·show Act.put _ (some 14) _ = _
           simp only [Act.put, List.setIfInBounds_toArray, List.set_cons_zero, List.set_cons_succ, i64_w, i32_w]
           rfl
          refine one_ (i := 4) (N := some 71) #[true, true, true, true, true, false, false, false, false, true, false, false, false] rfl rfl (one_of HT_.out (by kernel_rfl)) (by decide) (fun K hK => ?_)
          refine goes_ Try.func11 (by kernel_rfl) rfl #[.agg #[.slice A0_0 l0_0.length c0_0, .int .i64 a0_1], .slice A1 (l1.take ((ji19) : Int).toNat).length c1] (by rfl) rfl rfl (by (try simp only [List.map_toArray, List.map_cons, List.map_nil]); first | done | (rw [show (l1.take ((ji19) : Int).toNat).length = (ji19).toNat from (by rw [List.length_take]; have h_ : ((ji19) : Int) ≤ (l1.length : Int) := of_decide_eq_true (by first | (with_reducible assumption) | assumption); omega)] <;> rfl) | (simp only [hji19]; rfl) | rfl | (simp only [List.length_drop, List.length_take]; rfl)) ?_
          with_reducible refine (cadence_Replay.calls kj5 _ _ l0_0 a0_1 _ _ (l1.take ((ji19) : Int).toNat) t142 t143 t144 t145 t146 t147 _ ?side1 ?side2 ?side3 ?side4 A22.out).mono ?_
          (case side1 => repeat (first | exact (Kd.C_below HR0_0.out HB.out) | (with_reducible refine Kd.C_alloc ?_ _) | (with_reducible refine Kd.C_drewN ?_ _) | (with_reducible refine Kd.C_drew ?_)))
          (case side2 => exact HC0_0.out)
          (case side3 => repeat (first | exact (Kd.C_below HR141.out HB.out) | (with_reducible refine Kd.C_alloc ?_ _) | (with_reducible refine Kd.C_drewN ?_ _) | (with_reducible refine Kd.C_drew ?_)))
          (case side4 => exact HC141.out)
          rintro e w33 ⟨rfl, hb⟩
          refine ⟨_, rfl, ?_⟩
          have n0_ := Aside0.mk (blk_below (g := gb131) (o := .cells #[.slice A0_0 l0_0.length c0_0, .int .i64 a0_1] 24 (0, 0)) (by (with_reducible repeat (first | refine blk_drewN ?_ _ | refine blk_drew ?_ | refine blk_alloc ?_ _)); exact BK131.out) hb); have n1_ := Aside0.mk (blk_below (g := gb140) (o := .cells #[.int .i64 t134, .int .i64 t135, .int .i64 t136, .bool t137] 30 (0, 0)) (by (with_reducible repeat (first | refine blk_drewN ?_ _ | refine blk_drew ?_ | refine blk_alloc ?_ _)); exact BK140.out) hb); have n2_ := Aside0.mk (blk_below (g := gb148) (o := .cells #[.int .i64 0, .int .i64 0, .int .i64 0, .bool false] 30 (0, 0)) (by (with_reducible repeat (first | refine blk_drewN ?_ _ | refine blk_drew ?_ | refine blk_alloc ?_ _)); exact BK148.out) hb); have n3_ := Aside0.mk (below_step (by repeat (first | (with_reducible first | exact HB.out | apply below_alloc | apply pw_below_drewN | apply below_drew1 | refine below_set ?_ GE131.out | refine below_set ?_ GE140.out | refine below_set ?_ GE148.out) | exact HB.out)) hb); clear BK131; clear BK140; clear BK148; clear HB; have BK131 := n0_; have BK140 := n1_; have BK148 := n2_; have HB := n3_; clear n0_ n1_ n2_ n3_
          (try clear hb)
          (try clear hb2)
          (try clear hk)
          (try clear hi)
          refine hK.out _ _ ⟨(blk_cell BK131.out 0).trans rfl, (blk_cell BK131.out 1).trans rfl⟩ (fun hHeld => ?_)
          clear hK K
          refine norm_ (a' := ?_) ?_ ?_
          rotate_left
          ·show Act.put _ (some 71) _ = _
           simp only [Act.put, List.setIfInBounds_toArray, List.set_cons_zero, List.set_cons_succ, i64_w, i32_w]
           rfl
          refine pure_ (i := 5) (N := some 66) (v := ?_) (a' := ?_) #[true, true, true, true, true, true, false, false, false, true, false, false, false] rfl rfl (any_of HT_.out (by kernel_rfl)) (fun _ _ _ h => h) (Or.inl ⟨by rfl, ?_⟩) ?_ ?_
          rotate_left
          ·intro w'
           go_simp
           with_reducible rfl
          rotate_left
          ·simp only [Act.put, List.setIfInBounds_toArray, List.set_cons_zero, List.set_cons_succ, i64_w, i32_w]
           rfl
          refine pure_ (i := 6) (N := some 72) (v := ?_) (a' := ?_) #[true, true, true, true, true, true, true, false, false, true, false, false, false] rfl rfl (any_of HT_.out (by kernel_rfl)) (fun _ _ _ h => h) (Or.inl ⟨by rfl, ?_⟩) ?_ ?_
          rotate_left
          ·intro w'
           go_simp
           with_reducible rfl
          rotate_left
          ·simp only [Act.put, List.setIfInBounds_toArray, List.set_cons_zero, List.set_cons_succ, i64_w, i32_w]
           rfl
          refine pure_ (i := 7) (N := some 73) (v := ?_) (a' := ?_) #[true, true, true, true, true, true, true, true, false, true, false, false, false] rfl rfl (any_of HT_.out (by kernel_rfl)) (fun _ _ _ h => h) (Or.inl ⟨by rfl, ?_⟩) ?_ ?_
          rotate_left
          ·intro w'
           go_simp
           with_reducible rfl
          rotate_left
          ·simp only [Act.put, List.setIfInBounds_toArray, List.set_cons_zero, List.set_cons_succ, i64_w, i32_w]
           rfl
          refine pure_ (i := 8) (N := some 74) (v := ?_) (a' := ?_) #[true, true, true, true, true, true, true, true, true, true, false, false, false] rfl rfl (any_of HT_.out (by kernel_rfl)) (fun _ _ _ h => h) (Or.inl ⟨by rfl, ?_⟩) ?_ ?_
          rotate_left
          ·intro w'
           go_simp
           with_reducible rfl
          rotate_left
          ·simp only [Act.put, List.setIfInBounds_toArray, List.set_cons_zero, List.set_cons_succ, i64_w, i32_w]
           rfl
          exact norm_ (by simp only [putAll, Act.put, List.setIfInBounds_toArray, List.set_cons_zero, List.set_cons_succ]) (hCont (gb148) _ ⟨hHeld, (by (with_reducible repeat (first | refine blk_drewN ?_ _ | refine blk_drew ?_ | refine blk_alloc ?_ _)); exact BK131.out), (by (with_reducible repeat (first | refine blk_drewN ?_ _ | refine blk_drew ?_ | refine blk_alloc ?_ _)); exact BK140.out), (by (with_reducible repeat (first | refine blk_drewN ?_ _ | refine blk_drew ?_ | refine blk_alloc ?_ _)); exact BK148.out), GW148.out, GE148.out, NB131_148.out, NB148_131.out, NB140_148.out, NB148_140.out, (by repeat (first | (with_reducible first | exact HB.out | apply below_alloc | apply pw_below_drewN | apply below_drew1 | refine below_set ?_ GE131.out | refine below_set ?_ GE140.out | refine below_set ?_ GE148.out) | exact HB.out))⟩)
        rintro gb148 w34 ⟨hS_, h0_, h1_, h2_, h3_, h4_, h5_, h6_, h7_, h8_, h9_⟩
        have n0_ : Aside0 (w34.heap[gb131]? = some (.cells #[.slice A0_0 l0_0.length c0_0, .int .i64 a0_1] 24 (0, 0))) := ⟨h0_⟩; have n1_ : Aside0 (w34.heap[gb140]? = some (.cells #[.int .i64 t134, .int .i64 t135, .int .i64 t136, .bool t137] 30 (0, 0))) := ⟨h1_⟩; have n2_ : Aside0 (w34.heap[gb148]? = some (.cells #[.int .i64 0, .int .i64 0, .int .i64 0, .bool false] 30 (0, 0))) := ⟨h2_⟩; have n3_ : Aside0 (w.heap.size ≤ gb148) := ⟨h3_⟩; have n4_ : Aside0 (w.heap.size ≤ gb148) := ⟨h4_⟩; have n5_ : Aside0 (gb131 ≠ gb148) := ⟨h5_⟩; have n6_ : Aside0 (gb148 ≠ gb131) := ⟨h6_⟩; have n7_ : Aside0 (gb140 ≠ gb148) := ⟨h7_⟩; have n8_ : Aside0 (gb148 ≠ gb140) := ⟨h8_⟩; have n9_ : Aside0 (Below w.heap.size w w34) := ⟨h9_⟩; clear BK131; clear BK140; clear HB; clear h0_ h1_ h2_ h3_ h4_ h5_ h6_ h7_ h8_ h9_; have BK131 := n0_; have BK140 := n1_; have BK148 := n2_; have GW148 := n3_; have GE148 := n4_; have NB131_148 := n5_; have NB148_131 := n6_; have NB140_148 := n7_; have NB148_140 := n8_; have HB := n9_; clear n0_ n1_ n2_ n3_ n4_ n5_ n6_ n7_ n8_ n9_; have hHeld : w34.cell? ⟨gb131, 0, none⟩ = some (.slice A0_0 l0_0.length c0_0) ∧ w34.cell? ⟨gb131, 1, none⟩ = some (.int .i64 a0_1) := hS_
        refine norm_ (a' := ?_) ?_ ?_
        rotate_left
        ·simp only [putAll, Act.put, List.setIfInBounds_toArray, List.set_cons_zero, List.set_cons_succ]
         rfl
        refine one_ (i := 10) (N := none) #[true, true, true, true, true, true, true, true, true, true, true, false, false] rfl rfl (one_of HT_.out (by kernel_rfl)) (by decide) (fun K hK => ?_)
        have hs35 : w34.cell? ⟨gb148, 0, none⟩ = some (.int .i64 0) := (blk_cell BK148.out 0).trans rfl; have hfs35 := blk_frozen BK148.out 0; have hns35_0 := NB131_148.out; have hns35_1 := NB140_148.out; have hms35_0 := NB148_131.out; have hms35_1 := NB148_140.out; have hs36 : w34.cell? ⟨gb148, 1, none⟩ = some (.int .i64 0) := (blk_cell BK148.out 1).trans rfl; have hfs36 := blk_frozen BK148.out 1; have hns36_0 := NB131_148.out; have hns36_1 := NB140_148.out; have hms36_0 := NB148_131.out; have hms36_1 := NB148_140.out; have hs37 : w34.cell? ⟨gb148, 2, none⟩ = some (.int .i64 0) := (blk_cell BK148.out 2).trans rfl; have hfs37 := blk_frozen BK148.out 2; have hns37_0 := NB131_148.out; have hns37_1 := NB140_148.out; have hms37_0 := NB148_131.out; have hms37_1 := NB148_140.out; have hs38 : w34.cell? ⟨gb148, 3, none⟩ = some (.bool false) := (blk_cell BK148.out 3).trans rfl; have hfs38 := blk_frozen BK148.out 3; have hns38_0 := NB131_148.out; have hns38_1 := NB140_148.out; have hms38_0 := NB148_131.out; have hms38_1 := NB148_140.out
        refine skip_ (w1 := ?_) (by rfl) rfl ?_ ?_
        rotate_left
        ·go_simp
         rfl
        refine hK.out _ _ ⟨((cell_far (p := ⟨gb148, _, none⟩) NB131_148.out _).trans (((cell_far (p := ⟨gb148, _, none⟩) NB131_148.out _).trans (((cell_far (p := ⟨gb148, _, none⟩) NB131_148.out _).trans (((cell_far (p := ⟨gb148, _, none⟩) NB131_148.out _).trans (hHeld.1)))))))), ((cell_far (p := ⟨gb148, _, none⟩) NB131_148.out _).trans (((cell_far (p := ⟨gb148, _, none⟩) NB131_148.out _).trans (((cell_far (p := ⟨gb148, _, none⟩) NB131_148.out _).trans (((cell_far (p := ⟨gb148, _, none⟩) NB131_148.out _).trans (hHeld.2))))))))⟩ (fun hHeld => ?_)
        clear hK K
        refine pure_ (i := 11) (N := some 15) (v := ?_) (a' := ?_) #[true, true, true, true, true, true, true, true, true, true, true, true, false] rfl rfl (any_of HT_.out (by kernel_rfl)) (fun _ _ _ h => h) (Or.inl ⟨by rfl, ?_⟩) ?_ ?_
        rotate_left
        ·intro w'
         go_simp
         with_reducible rfl
        rotate_left
        ·simp only [Act.put, List.setIfInBounds_toArray, List.set_cons_zero, List.set_cons_succ, i64_w, i32_w]
         rfl
        refine pure_ (i := 12) (N := some 16) (v := ?_) (a' := ?_) #[true, true, true, true, true, true, true, true, true, true, true, true, true] rfl rfl (any_of HT_.out (by kernel_rfl)) (fun _ _ _ h => h) (Or.inl ⟨by rfl, ?_⟩) ?_ ?_
        rotate_left
        ·intro w'
         go_simp
         with_reducible rfl
        rotate_left
        ·simp only [Act.put, List.setIfInBounds_toArray, List.set_cons_zero, List.set_cons_succ, i64_w, i32_w]
         rfl
        refine done_ (done_of HT_.out (by kernel_rfl)) ?_
        go_upto_region 9 with (fail)
        go_cut [93] (fun v93 wc => ∃ (kq : Nat) (x93_22 : Bool), v93 = .bool x93_22 ∧ Aside0 (observatorylaw24_CadenceReplays.j1 kq l1 a2 t132 x93_22 l0_0 a0_1 t134 t135 t136 t137 = some r) ∧ Aside0 (kq ≤ kj5) ∧ Aside0 (wc.heap[gb131]? = some (.cells #[(.slice A0_0 l0_0.length c0_0), .int .i64 a0_1] 24 (0, 0))) ∧ Aside0 (wc.heap[gb140]? = some (.cells #[.int .i64 t134, .int .i64 t135, .int .i64 t136, .bool t137] 30 (0, 0))) ∧ Aside0 (wc.heap[gb148]? = some (.cells #[.int .i64 t142, .int .i64 t143, .int .i64 t144, .bool t145] 30 (0, 0))) ∧ Aside0 (Below w.heap.size w wc))
        case first =>
         have H := HC23.out; clear HC23
         by_cases c39 : t138 = (l1.length : Int)
         ·rw [if_pos c39] at H
          have c39b0 : (t138 == (l1.length : Int)) = true := beq_iff_eq.mpr c39; have c39b1 : (t138 != (l1.length : Int)) = false := bne_eq_false_iff_eq.mpr c39; clear c39
          (first | rw [c39b0] | (simp only [i64_w, i32_w]; rw [c39b0]) | skip)
          by_cases c40 : t147 = 0
          ·rw [if_pos c40] at H
           have c40b0 : (t147 == 0) = true := beq_iff_eq.mpr c40; have c40b1 : (t147 != 0) = false := bne_eq_false_iff_eq.mpr c40; clear c40
           by_cases c41 : t146 = (ji19)
           ·rw [if_pos c41] at H
            have c41b0 : (t146 == (ji19)) = true := beq_iff_eq.mpr c41; have c41b1 : (t146 != (ji19)) = false := bne_eq_false_iff_eq.mpr c41; clear c41; have H' := Aside0.mk H; clear H; have hnb42 := NB131_140.out; have hnc42 := NB140_131.out; have hnb43 := NB131_148.out; have hnc43 := NB148_131.out; have hcz44_0 : w34.cell? ⟨gb131, 0, none⟩ = some (.slice A0_0 l0_0.length c0_0) := (blk_cell BK131.out 0).trans rfl; have hcz44_1 : w34.cell? ⟨gb131, 1, none⟩ = some (.int .i64 a0_1) := (blk_cell BK131.out 1).trans rfl; have hfz44_0 := blk_frozen BK131.out 0; have hfz44_1 := blk_frozen BK131.out 1
            go_wp2
            go_meet
            case rel => exact ⟨_, (((l0_0.length : Int) == 0)), (by first | rfl | (simp; done) | (simp [*]; done)), H', ⟨by have := HJ5.out; first | omega | exact Nat.le_refl _⟩, ⟨by (with_reducible repeat (first | refine blk_drewN ?_ _ | refine blk_drew ?_ | refine blk_alloc ?_ _)); refine blk_far ?_ NB131_148.out _; (with_reducible repeat (first | refine blk_drewN ?_ _ | refine blk_drew ?_ | refine blk_alloc ?_ _)); refine blk_far ?_ NB131_148.out _; (with_reducible repeat (first | refine blk_drewN ?_ _ | refine blk_drew ?_ | refine blk_alloc ?_ _)); refine blk_far ?_ NB131_148.out _; (with_reducible repeat (first | refine blk_drewN ?_ _ | refine blk_drew ?_ | refine blk_alloc ?_ _)); refine blk_far ?_ NB131_148.out _; (with_reducible repeat (first | refine blk_drewN ?_ _ | refine blk_drew ?_ | refine blk_alloc ?_ _)); exact BK131.out⟩, ⟨by (with_reducible repeat (first | refine blk_drewN ?_ _ | refine blk_drew ?_ | refine blk_alloc ?_ _)); refine blk_far ?_ NB140_148.out _; (with_reducible repeat (first | refine blk_drewN ?_ _ | refine blk_drew ?_ | refine blk_alloc ?_ _)); refine blk_far ?_ NB140_148.out _; (with_reducible repeat (first | refine blk_drewN ?_ _ | refine blk_drew ?_ | refine blk_alloc ?_ _)); refine blk_far ?_ NB140_148.out _; (with_reducible repeat (first | refine blk_drewN ?_ _ | refine blk_drew ?_ | refine blk_alloc ?_ _)); refine blk_far ?_ NB140_148.out _; (with_reducible repeat (first | refine blk_drewN ?_ _ | refine blk_drew ?_ | refine blk_alloc ?_ _)); exact BK140.out⟩, ⟨by (with_reducible repeat (first | refine blk_drewN ?_ _ | refine blk_drew ?_ | refine blk_alloc ?_ _)); refine blk_put (cs := #[.int .i64 t142, .int .i64 t143, .int .i64 t144, .bool false]) ?_ 3 _ rfl; (with_reducible repeat (first | refine blk_drewN ?_ _ | refine blk_drew ?_ | refine blk_alloc ?_ _)); refine blk_put (cs := #[.int .i64 t142, .int .i64 t143, .int .i64 0, .bool false]) ?_ 2 _ rfl; (with_reducible repeat (first | refine blk_drewN ?_ _ | refine blk_drew ?_ | refine blk_alloc ?_ _)); refine blk_put (cs := #[.int .i64 t142, .int .i64 0, .int .i64 0, .bool false]) ?_ 1 _ rfl; (with_reducible repeat (first | refine blk_drewN ?_ _ | refine blk_drew ?_ | refine blk_alloc ?_ _)); refine blk_put (cs := #[.int .i64 0, .int .i64 0, .int .i64 0, .bool false]) ?_ 0 _ rfl; (with_reducible repeat (first | refine blk_drewN ?_ _ | refine blk_drew ?_ | refine blk_alloc ?_ _)); exact BK148.out⟩, ⟨by repeat (first | (with_reducible first | exact HB.out | apply below_alloc | apply pw_below_drewN | apply below_drew1 | refine below_set ?_ GE131.out | refine below_set ?_ GE140.out | refine below_set ?_ GE148.out) | exact HB.out)⟩⟩
           ·rw [if_neg c41] at H
            have c41b0 : (t146 == (ji19)) = false := beq_eq_false_iff_ne.mpr c41; have c41b1 : (t146 != (ji19)) = true := bne_iff_ne.mpr c41; have H' := Aside0.mk H; clear H
            go_wp2
            go_meet
            case rel => exact ⟨_, (true), (by first | rfl | (simp; done) | (simp [*]; done)), H', ⟨by have := HJ5.out; first | omega | exact Nat.le_refl _⟩, ⟨by (with_reducible repeat (first | refine blk_drewN ?_ _ | refine blk_drew ?_ | refine blk_alloc ?_ _)); refine blk_far ?_ NB131_148.out _; (with_reducible repeat (first | refine blk_drewN ?_ _ | refine blk_drew ?_ | refine blk_alloc ?_ _)); refine blk_far ?_ NB131_148.out _; (with_reducible repeat (first | refine blk_drewN ?_ _ | refine blk_drew ?_ | refine blk_alloc ?_ _)); refine blk_far ?_ NB131_148.out _; (with_reducible repeat (first | refine blk_drewN ?_ _ | refine blk_drew ?_ | refine blk_alloc ?_ _)); refine blk_far ?_ NB131_148.out _; (with_reducible repeat (first | refine blk_drewN ?_ _ | refine blk_drew ?_ | refine blk_alloc ?_ _)); exact BK131.out⟩, ⟨by (with_reducible repeat (first | refine blk_drewN ?_ _ | refine blk_drew ?_ | refine blk_alloc ?_ _)); refine blk_far ?_ NB140_148.out _; (with_reducible repeat (first | refine blk_drewN ?_ _ | refine blk_drew ?_ | refine blk_alloc ?_ _)); refine blk_far ?_ NB140_148.out _; (with_reducible repeat (first | refine blk_drewN ?_ _ | refine blk_drew ?_ | refine blk_alloc ?_ _)); refine blk_far ?_ NB140_148.out _; (with_reducible repeat (first | refine blk_drewN ?_ _ | refine blk_drew ?_ | refine blk_alloc ?_ _)); refine blk_far ?_ NB140_148.out _; (with_reducible repeat (first | refine blk_drewN ?_ _ | refine blk_drew ?_ | refine blk_alloc ?_ _)); exact BK140.out⟩, ⟨by (with_reducible repeat (first | refine blk_drewN ?_ _ | refine blk_drew ?_ | refine blk_alloc ?_ _)); refine blk_put (cs := #[.int .i64 t142, .int .i64 t143, .int .i64 t144, .bool false]) ?_ 3 _ rfl; (with_reducible repeat (first | refine blk_drewN ?_ _ | refine blk_drew ?_ | refine blk_alloc ?_ _)); refine blk_put (cs := #[.int .i64 t142, .int .i64 t143, .int .i64 0, .bool false]) ?_ 2 _ rfl; (with_reducible repeat (first | refine blk_drewN ?_ _ | refine blk_drew ?_ | refine blk_alloc ?_ _)); refine blk_put (cs := #[.int .i64 t142, .int .i64 0, .int .i64 0, .bool false]) ?_ 1 _ rfl; (with_reducible repeat (first | refine blk_drewN ?_ _ | refine blk_drew ?_ | refine blk_alloc ?_ _)); refine blk_put (cs := #[.int .i64 0, .int .i64 0, .int .i64 0, .bool false]) ?_ 0 _ rfl; (with_reducible repeat (first | refine blk_drewN ?_ _ | refine blk_drew ?_ | refine blk_alloc ?_ _)); exact BK148.out⟩, ⟨by repeat (first | (with_reducible first | exact HB.out | apply below_alloc | apply pw_below_drewN | apply below_drew1 | refine below_set ?_ GE131.out | refine below_set ?_ GE140.out | refine below_set ?_ GE148.out) | exact HB.out)⟩⟩
          ·rw [if_neg c40] at H
           have c40b0 : (t147 == 0) = false := beq_eq_false_iff_ne.mpr c40; have c40b1 : (t147 != 0) = true := bne_iff_ne.mpr c40; have H' := Aside0.mk H; clear H
           go_wp2
           go_meet
           case rel => exact ⟨_, (true), (by first | rfl | (simp; done) | (simp [*]; done)), H', ⟨by have := HJ5.out; first | omega | exact Nat.le_refl _⟩, ⟨by (with_reducible repeat (first | refine blk_drewN ?_ _ | refine blk_drew ?_ | refine blk_alloc ?_ _)); refine blk_far ?_ NB131_148.out _; (with_reducible repeat (first | refine blk_drewN ?_ _ | refine blk_drew ?_ | refine blk_alloc ?_ _)); refine blk_far ?_ NB131_148.out _; (with_reducible repeat (first | refine blk_drewN ?_ _ | refine blk_drew ?_ | refine blk_alloc ?_ _)); refine blk_far ?_ NB131_148.out _; (with_reducible repeat (first | refine blk_drewN ?_ _ | refine blk_drew ?_ | refine blk_alloc ?_ _)); refine blk_far ?_ NB131_148.out _; (with_reducible repeat (first | refine blk_drewN ?_ _ | refine blk_drew ?_ | refine blk_alloc ?_ _)); exact BK131.out⟩, ⟨by (with_reducible repeat (first | refine blk_drewN ?_ _ | refine blk_drew ?_ | refine blk_alloc ?_ _)); refine blk_far ?_ NB140_148.out _; (with_reducible repeat (first | refine blk_drewN ?_ _ | refine blk_drew ?_ | refine blk_alloc ?_ _)); refine blk_far ?_ NB140_148.out _; (with_reducible repeat (first | refine blk_drewN ?_ _ | refine blk_drew ?_ | refine blk_alloc ?_ _)); refine blk_far ?_ NB140_148.out _; (with_reducible repeat (first | refine blk_drewN ?_ _ | refine blk_drew ?_ | refine blk_alloc ?_ _)); refine blk_far ?_ NB140_148.out _; (with_reducible repeat (first | refine blk_drewN ?_ _ | refine blk_drew ?_ | refine blk_alloc ?_ _)); exact BK140.out⟩, ⟨by (with_reducible repeat (first | refine blk_drewN ?_ _ | refine blk_drew ?_ | refine blk_alloc ?_ _)); refine blk_put (cs := #[.int .i64 t142, .int .i64 t143, .int .i64 t144, .bool false]) ?_ 3 _ rfl; (with_reducible repeat (first | refine blk_drewN ?_ _ | refine blk_drew ?_ | refine blk_alloc ?_ _)); refine blk_put (cs := #[.int .i64 t142, .int .i64 t143, .int .i64 0, .bool false]) ?_ 2 _ rfl; (with_reducible repeat (first | refine blk_drewN ?_ _ | refine blk_drew ?_ | refine blk_alloc ?_ _)); refine blk_put (cs := #[.int .i64 t142, .int .i64 0, .int .i64 0, .bool false]) ?_ 1 _ rfl; (with_reducible repeat (first | refine blk_drewN ?_ _ | refine blk_drew ?_ | refine blk_alloc ?_ _)); refine blk_put (cs := #[.int .i64 0, .int .i64 0, .int .i64 0, .bool false]) ?_ 0 _ rfl; (with_reducible repeat (first | refine blk_drewN ?_ _ | refine blk_drew ?_ | refine blk_alloc ?_ _)); exact BK148.out⟩, ⟨by repeat (first | (with_reducible first | exact HB.out | apply below_alloc | apply pw_below_drewN | apply below_drew1 | refine below_set ?_ GE131.out | refine below_set ?_ GE140.out | refine below_set ?_ GE148.out) | exact HB.out)⟩⟩
         ·rw [if_neg c39] at H
          have c39b0 : (t138 == (l1.length : Int)) = false := beq_eq_false_iff_ne.mpr c39; have c39b1 : (t138 != (l1.length : Int)) = true := bne_iff_ne.mpr c39
          (first | rw [c39b0] | (simp only [i64_w, i32_w]; rw [c39b0]) | skip)
          have H' := Aside0.mk H; clear H
          go_wp2
          go_meet
          case rel => exact ⟨_, (true), (by first | rfl | (simp; done) | (simp [*]; done)), H', ⟨by have := HJ5.out; first | omega | exact Nat.le_refl _⟩, ⟨by (with_reducible repeat (first | refine blk_drewN ?_ _ | refine blk_drew ?_ | refine blk_alloc ?_ _)); refine blk_far ?_ NB131_148.out _; (with_reducible repeat (first | refine blk_drewN ?_ _ | refine blk_drew ?_ | refine blk_alloc ?_ _)); refine blk_far ?_ NB131_148.out _; (with_reducible repeat (first | refine blk_drewN ?_ _ | refine blk_drew ?_ | refine blk_alloc ?_ _)); refine blk_far ?_ NB131_148.out _; (with_reducible repeat (first | refine blk_drewN ?_ _ | refine blk_drew ?_ | refine blk_alloc ?_ _)); refine blk_far ?_ NB131_148.out _; (with_reducible repeat (first | refine blk_drewN ?_ _ | refine blk_drew ?_ | refine blk_alloc ?_ _)); exact BK131.out⟩, ⟨by (with_reducible repeat (first | refine blk_drewN ?_ _ | refine blk_drew ?_ | refine blk_alloc ?_ _)); refine blk_far ?_ NB140_148.out _; (with_reducible repeat (first | refine blk_drewN ?_ _ | refine blk_drew ?_ | refine blk_alloc ?_ _)); refine blk_far ?_ NB140_148.out _; (with_reducible repeat (first | refine blk_drewN ?_ _ | refine blk_drew ?_ | refine blk_alloc ?_ _)); refine blk_far ?_ NB140_148.out _; (with_reducible repeat (first | refine blk_drewN ?_ _ | refine blk_drew ?_ | refine blk_alloc ?_ _)); refine blk_far ?_ NB140_148.out _; (with_reducible repeat (first | refine blk_drewN ?_ _ | refine blk_drew ?_ | refine blk_alloc ?_ _)); exact BK140.out⟩, ⟨by (with_reducible repeat (first | refine blk_drewN ?_ _ | refine blk_drew ?_ | refine blk_alloc ?_ _)); refine blk_put (cs := #[.int .i64 t142, .int .i64 t143, .int .i64 t144, .bool false]) ?_ 3 _ rfl; (with_reducible repeat (first | refine blk_drewN ?_ _ | refine blk_drew ?_ | refine blk_alloc ?_ _)); refine blk_put (cs := #[.int .i64 t142, .int .i64 t143, .int .i64 0, .bool false]) ?_ 2 _ rfl; (with_reducible repeat (first | refine blk_drewN ?_ _ | refine blk_drew ?_ | refine blk_alloc ?_ _)); refine blk_put (cs := #[.int .i64 t142, .int .i64 0, .int .i64 0, .bool false]) ?_ 1 _ rfl; (with_reducible repeat (first | refine blk_drewN ?_ _ | refine blk_drew ?_ | refine blk_alloc ?_ _)); refine blk_put (cs := #[.int .i64 0, .int .i64 0, .int .i64 0, .bool false]) ?_ 0 _ rfl; (with_reducible repeat (first | refine blk_drewN ?_ _ | refine blk_drew ?_ | refine blk_alloc ?_ _)); exact BK148.out⟩, ⟨by repeat (first | (with_reducible first | exact HB.out | apply below_alloc | apply pw_below_drewN | apply below_drew1 | refine below_set ?_ GE131.out | refine below_set ?_ GE140.out | refine below_set ?_ GE148.out) | exact HB.out)⟩⟩
        case rest =>
         clear HC23; try clear c1; try clear c2; try clear p2; try clear c3; try clear c4; try clear p6; try clear c8; try clear c9; try clear c10; try clear c11; try clear c15; try clear c17; try clear c17b0; try clear c17b1; try clear c18; try clear c18b0; try clear c18b1; try clear c20; try clear c20b0; try clear c20b1; try clear c21; try clear c21b0; try clear c21b1; try clear c27; try clear c39; try clear c39b0; try clear c39b1; try clear c40; try clear c40b0; try clear c40b1; try clear c41; try clear c41b0; try clear c41b1; try clear c42; try clear c43; try clear hcz11_0; try clear hcz11_1; try clear hcz13_0; try clear hcz13_1; try clear hcz24_0; try clear hcz24_1; try clear hcz28_0; try clear hcz28_1; try clear hcz28_2; try clear hcz28_3; try clear hcz44_0; try clear hcz44_1; try clear hfz11_0; try clear hfz11_1; try clear hfz13_0; try clear hfz13_1; try clear hfz24_0; try clear hfz24_1; try clear hfz28_0; try clear hfz28_1; try clear hfz28_2; try clear hfz28_3; try clear hfz44_0; try clear hfz44_1; try clear p2
         obtain ⟨kq, x93_22, rfl, HA, HJ22, BK131, BK140, BK148, HB⟩ := hcut
         cases kq with
         | zero => exact absurd HA.out (by simp [observatorylaw24_CadenceReplays.j1])
         | succ kj22 =>
          have H := HA.out; clear HA
          simp only [observatorylaw24_CadenceReplays.j1] at H
          by_cases c45 : x93_22 = true
          ·subst c45
           have H1 : (some false) = some r := by rw [if_pos rfl] at H; exact H
           clear H; have H := H1; clear H1
           exact absurd ((Option.some.inj H).trans HTru_.out) (by decide)
          ·replace c45 := Bool.eq_false_iff.mpr c45
           subst c45
           have H1 : (observatorylaw24_CadenceReplays.l0 kj22 l1 a2 t132 1 l0_0 a0_1 t134 t135 t136 t137) = some r := by rw [if_neg (show ¬ (false = true) by decide)] at H; exact H
           clear H; have H := H1; clear H1; have H' := Aside0.mk H; clear H
           go_wp2
           go_loopg [17] kj22 (fun kq v17 w' => ∃ (x17_3 : Int), v17 = .int .i64 x17_3 ∧ Aside0 (observatorylaw24_CadenceReplays.l0 kq l1 a2 t132 x17_3 l0_0 a0_1 t134 t135 t136 t137 = some r) ∧ Aside0 (kq ≤ kj22) ∧ Aside0 (w'.heap[gb131]? = some (.cells #[(.slice A0_0 l0_0.length c0_0), .int .i64 a0_1] 24 (0, 0))) ∧ Aside0 (w'.heap[gb140]? = some (.cells #[.int .i64 t134, .int .i64 t135, .int .i64 t136, .bool t137] 30 (0, 0))) ∧ Aside0 (w'.heap[gb148]? = some (.cells #[.int .i64 t142, .int .i64 t143, .int .i64 t144, .bool t145] 30 (0, 0))) ∧ Aside0 (Below w.heap.size w w'))
           case atStart => exact ⟨(1), (by first | rfl | (simp; done) | (simp [*]; done)), H', ⟨Nat.le_refl _⟩, ⟨by (with_reducible repeat (first | refine blk_drewN ?_ _ | refine blk_drew ?_ | refine blk_alloc ?_ _)); exact BK131.out⟩, ⟨by (with_reducible repeat (first | refine blk_drewN ?_ _ | refine blk_drew ?_ | refine blk_alloc ?_ _)); exact BK140.out⟩, ⟨by (with_reducible repeat (first | refine blk_drewN ?_ _ | refine blk_drew ?_ | refine blk_alloc ?_ _)); exact BK148.out⟩, ⟨by repeat (first | (with_reducible first | exact HB.out | apply below_alloc | apply pw_below_drewN | apply below_drew1 | refine below_set ?_ GE131.out | refine below_set ?_ GE140.out | refine below_set ?_ GE148.out) | exact HB.out)⟩⟩
           case round =>
            clear H'; try clear c1; try clear c2; try clear p2; try clear c3; try clear c4; try clear p6; try clear c8; try clear c9; try clear c10; try clear c11; try clear c15; try clear c17; try clear c17b0; try clear c17b1; try clear c18; try clear c18b0; try clear c18b1; try clear c20; try clear c20b0; try clear c20b1; try clear c21; try clear c21b0; try clear c21b1; try clear c27; try clear c39; try clear c39b0; try clear c39b1; try clear c40; try clear c40b0; try clear c40b1; try clear c41; try clear c41b0; try clear c41b1; try clear c42; try clear c43; try clear c45; try clear hcz11_0; try clear hcz11_1; try clear hcz13_0; try clear hcz13_1; try clear hcz24_0; try clear hcz24_1; try clear hcz28_0; try clear hcz28_1; try clear hcz28_2; try clear hcz28_3; try clear hcz44_0; try clear hcz44_1; try clear hfz11_0; try clear hfz11_1; try clear hfz13_0; try clear hfz13_1; try clear hfz24_0; try clear hfz24_1; try clear hfz28_0; try clear hfz28_1; try clear hfz28_2; try clear hfz28_3; try clear hfz44_0; try clear hfz44_1; try clear p2; try clear p6
            obtain ⟨x17_3, rfl, HA, HK3, BK131, BK140, BK148, HB⟩ := hrel
            cases gk with
            | zero => exact absurd HA.out (by simp [observatorylaw24_CadenceReplays.l0])
            | succ k3 =>
             have H := HA.out; clear HA
             simp only [observatorylaw24_CadenceReplays.l0] at H
             by_cases c46 : x17_3 < (l1.length : Int)
             ·rw [if_pos c46] at H
              have c46b0 : decide (x17_3 < (l1.length : Int)) = true := decide_eq_true c46; clear c46
              by_cases c47 : (l0_0.length : Int) = 0
              ·rw [if_pos c47] at H
               exact absurd H (by simp)
              ·rw [if_neg c47] at H
               have c47b0 : ((l0_0.length : Int) == 0) = false := beq_eq_false_iff_ne.mpr c47; have c47b1 : ((l0_0.length : Int) != 0) = true := bne_iff_ne.mpr c47; have c47b2 : ¬ (l0_0 = []) := fun h_ => c47 (by rw [h_]; rfl)
               obtain ⟨ji48, hji48⟩ : ∃ j_ : Int, (Int.tmod x17_3 (l0_0.length : Int)) = j_ := ⟨_, rfl⟩
               replace H : (if 0 ≤ (ji48) then (if (ji48) < (l0_0.length : Int) then (if 0 ≤ x17_3 then (if 0 ≤ (wrap64 (x17_3 - 1)) then (if (wrap64 (x17_3 - 1)) < (l1.length : Int) then (if (wrap64 ((rd l1 x17_3) - (rd l1 (wrap64 (x17_3 - 1))))) < ((rd_T35 l0_0 (ji48)).f1) then (some false) else (if (wrap64 ((rd l1 x17_3) - (rd l1 (wrap64 (x17_3 - 1))))) > ((rd_T35 l0_0 (ji48)).f2) then (some false) else (observatorylaw24_CadenceReplays.l0 k3 l1 a2 t132 (wrap64 (x17_3 + 1)) l0_0 a0_1 t134 t135 t136 t137))) else (none)) else (none)) else (none)) else (none)) else (none)) = some r := by first | (rw [hji48] at H; exact H) | (simp only [hji48] at H ⊢; exact H)
               by_cases c49 : 0 ≤ (ji48)
               ·rw [if_pos c49] at H
                have c49b0 : decide (0 ≤ (ji48)) = true := decide_eq_true c49; clear c49
                by_cases c50 : (ji48) < (l0_0.length : Int)
                ·rw [if_pos c50] at H
                 have c50b0 : decide ((ji48) < (l0_0.length : Int)) = true := decide_eq_true c50; clear c50
                 by_cases c51 : 0 ≤ x17_3
                 ·rw [if_pos c51] at H
                  have c51b0 : decide (0 ≤ x17_3) = true := decide_eq_true c51; clear c51
                  obtain ⟨ji52, hji52⟩ : ∃ j_ : Int, (wrap64 (x17_3 - 1)) = j_ := ⟨_, rfl⟩
                  replace H : (if 0 ≤ (ji52) then (if (ji52) < (l1.length : Int) then (if (wrap64 ((rd l1 x17_3) - (rd l1 (ji52)))) < ((rd_T35 l0_0 (ji48)).f1) then (some false) else (if (wrap64 ((rd l1 x17_3) - (rd l1 (ji52)))) > ((rd_T35 l0_0 (ji48)).f2) then (some false) else (observatorylaw24_CadenceReplays.l0 k3 l1 a2 t132 (wrap64 (x17_3 + 1)) l0_0 a0_1 t134 t135 t136 t137))) else (none)) else (none)) = some r := by first | (rw [hji52] at H; exact H) | (simp only [hji52] at H ⊢; exact H)
                  have hji52w : (IntKind.i64.wrap (x17_3 - 1)) = ji52 := (i64_w _).trans hji52
                  by_cases c53 : 0 ≤ (ji52)
                  ·rw [if_pos c53] at H
                   have c53b0 : decide (0 ≤ (ji52)) = true := decide_eq_true c53; clear c53
                   by_cases c54 : (ji52) < (l1.length : Int)
                   ·rw [if_pos c54] at H
                    have c54b0 : decide ((ji52) < (l1.length : Int)) = true := decide_eq_true c54; clear c54
                    by_cases c55 : (wrap64 ((rd l1 x17_3) - (rd l1 (ji52)))) < ((rd_T35 l0_0 (ji48)).f1)
                    ·rw [if_pos c55] at H
                     have c55b0 : decide ((wrap64 ((rd l1 x17_3) - (rd l1 (ji52)))) < ((rd_T35 l0_0 (ji48)).f1)) = true := decide_eq_true c55; clear c55
                     exact absurd ((Option.some.inj H).trans HTru_.out) (by decide)
                    ·rw [if_neg c55] at H
                     have c55b0 : decide ((wrap64 ((rd l1 x17_3) - (rd l1 (ji52)))) < ((rd_T35 l0_0 (ji48)).f1)) = false := decide_eq_false c55; clear c55
                     by_cases c56 : (wrap64 ((rd l1 x17_3) - (rd l1 (ji52)))) > ((rd_T35 l0_0 (ji48)).f2)
                     ·rw [if_pos c56] at H
                      have c56b0 : decide (((rd_T35 l0_0 (ji48)).f2) < (wrap64 ((rd l1 x17_3) - (rd l1 (ji52))))) = true := decide_eq_true c56; clear c56
                      exact absurd ((Option.some.inj H).trans HTru_.out) (by decide)
                     ·rw [if_neg c56] at H
                      have c56b0 : decide (((rd_T35 l0_0 (ji48)).f2) < (wrap64 ((rd l1 x17_3) - (rd l1 (ji52))))) = false := decide_eq_false c56; clear c56; have H' := Aside0.mk H; clear H
                      try go_wp2
                      have n0_ := Aside0.mk (blk_drew BK131.out); have n1_ := Aside0.mk (blk_drew BK140.out); have n2_ := Aside0.mk (blk_drew BK148.out); have n3_ := Aside0.mk (below_drew1 HB.out); clear BK131; clear BK140; clear BK148; clear HB; have BK131 := n0_; have BK140 := n1_; have BK148 := n2_; have HB := n3_; clear n0_ n1_ n2_ n3_; have p149 : 0 ≤ ((ji48) : Int) := of_decide_eq_true (by first | (with_reducible assumption) | assumption); have q149 : (ji48) < (l0_0.length : Int) := of_decide_eq_true (by first | (with_reducible assumption) | assumption)
                      obtain ⟨ad149, e149, hx149_0, hx149_1, hx149_2⟩ := at_T35 HR0_0.out (ji48) p149 q149
                      have hw149_2 := hx149_2; have hw149_1 := hx149_1; have hw149_0 := hx149_0
                      cases e149
                      replace hx149_0 := (HB.out.cell (World.block_lt_of_cell? w _ hx149_0)).trans hx149_0; replace hx149_1 := (HB.out.cell (World.block_lt_of_cell? w _ hx149_1)).trans hx149_1; replace hx149_2 := (HB.out.cell (World.block_lt_of_cell? w _ hx149_2)).trans hx149_2; replace p149 := eq_true p149; replace q149 := eq_true q149
                      refine start_ (n := 11) (S := fun w' => w'.cell? ⟨gb131, 0, none⟩ = some (.slice (some ad149) l0_0.length c0_0) ∧ w'.cell? ⟨gb131, 1, none⟩ = some (.int .i64 a0_1) ∧ w'.cell? (ad149.add (((ji48)).toNat * 3)) = some (.int .i64 ((rd_T35 l0_0 (ji48)).f0)) ∧ w'.cell? ⟨(ad149.add (((ji48)).toNat * 3)).block, (ad149.add (((ji48)).toNat * 3)).off + 1, none⟩ = some (.int .i64 ((rd_T35 l0_0 (ji48)).f1)) ∧ w'.cell? ⟨(ad149.add (((ji48)).toNat * 3)).block, (ad149.add (((ji48)).toNat * 3)).off + 2, none⟩ = some (.int .i64 ((rd_T35 l0_0 (ji48)).f2))) (ds := []) #[false, false, false, false, false, false, false, false, false, false, false] (by kernel_rfl) rfl rfl ⟨(blk_cell BK131.out 0).trans rfl, (blk_cell BK131.out 1).trans rfl, ((HB.out.cell (World.block_lt_of_cell? w _ hw149_0)).trans hw149_0), ((HB.out.cell (World.block_lt_of_cell? w _ hw149_1)).trans hw149_1), ((HB.out.cell (World.block_lt_of_cell? w _ hw149_2)).trans hw149_2)⟩ (fun hHeld => ?_); refine with_tabW observatorylaw24_CadenceReplays.tab14 observatorylaw24_CadenceReplays.bits14 (fun HT_ HW_ => ?_)
                      generalize wr.drew = w57 at BK131 BK140 BK148 HB hx149_0 hx149_1 hx149_2 hHeld ⊢
                      refine pure_ (i := 0) (N := some 100) (v := ?_) (a' := ?_) #[true, false, false, false, false, false, false, false, false, false, false] rfl rfl (any_of HT_.out (by kernel_rfl)) (fun _ _ _ h => h) (Or.inl ⟨by rfl, ?_⟩) ?_ ?_
                      rotate_left
                      ·intro w'
                       go_simp
                       with_reducible rfl
                      rotate_left
                      ·simp only [Act.put, List.setIfInBounds_toArray, List.set_cons_zero, List.set_cons_succ, i64_w, i32_w]
                       rfl
                      refine pure_ (i := 2) (N := some 102) (v := ?_) (a' := ?_) #[true, false, true, false, false, false, false, false, false, false, false] rfl rfl (any_of HT_.out (by kernel_rfl)) (fun _ _ _ h => h) (Or.inl ⟨by rfl, ?_⟩) ?_ ?_
                      rotate_left
                      ·intro w'
                       go_simp
                       with_reducible rfl
                      rotate_left
                      ·simp only [Act.put, List.setIfInBounds_toArray, List.set_cons_zero, List.set_cons_succ, i64_w, i32_w]
                       rfl
                      refine pure_ (i := 3) (N := some 103) (v := ?_) (a' := ?_) #[true, false, true, true, false, false, false, false, false, false, false] rfl rfl (any_of HT_.out (by kernel_rfl)) (fun _ _ _ h => h) (Or.inl ⟨by rfl, ?_⟩) ?_ ?_
                      rotate_left
                      ·intro w'
                       go_simp
                       with_reducible rfl
                      rotate_left
                      ·simp only [Act.put, List.setIfInBounds_toArray, List.set_cons_zero, List.set_cons_succ, i64_w, i32_w]
                       rfl
                      refine take_ (i := 1) (N := some 101) (v := ?_) (a' := ?_) #[true, true, true, true, false, false, false, false, false, false, false] rfl rfl (take_ofW HT_.out HW_.out (by kernel_rfl)) (fun _ _ _ h => h) (Or.inl ⟨by rfl, ?_⟩) hHeld ?_ ?_
                      rotate_left
                      ·rintro w' ⟨s0, s1, s2, s3, s4⟩
                       go_simp
                       with_reducible rfl
                      rotate_left
                      ·simp only [Act.put, List.setIfInBounds_toArray, List.set_cons_zero, List.set_cons_succ, i64_w, i32_w]
                       rfl
                      refine take_ (i := 4) (N := some 104) (v := ?_) (a' := ?_) #[true, true, true, true, true, false, false, false, false, false, false] rfl rfl (take_ofW HT_.out HW_.out (by kernel_rfl)) (fun _ _ _ h => h) (Or.inl ⟨by rfl, ?_⟩) hHeld ?_ ?_
                      rotate_left
                      ·rintro w' ⟨s0, s1, s2, s3, s4⟩
                       go_simp
                       with_reducible rfl
                      rotate_left
                      ·simp only [Act.put, List.setIfInBounds_toArray, List.set_cons_zero, List.set_cons_succ, i64_w, i32_w]
                       rfl
                      refine pure_ (i := 5) (N := some 105) (v := ?_) (a' := ?_) #[true, true, true, true, true, true, false, false, false, false, false] rfl rfl (any_of HT_.out (by kernel_rfl)) (fun _ _ _ h => h) (Or.inl ⟨by rfl, ?_⟩) ?_ ?_
                      rotate_left
                      ·intro w'
                       go_simp
                       with_reducible rfl
                      rotate_left
                      ·simp only [Act.put, List.setIfInBounds_toArray, List.set_cons_zero, List.set_cons_succ, i64_w, i32_w]
                       rfl
                      refine pure_ (i := 6) (N := some 106) (v := ?_) (a' := ?_) #[true, true, true, true, true, true, true, false, false, false, false] rfl rfl (any_of HT_.out (by kernel_rfl)) (fun _ _ _ h => h) (Or.inl ⟨by rfl, ?_⟩) ?_ ?_
                      rotate_left
                      ·intro w'
                       go_simp
                       with_reducible rfl
                      rotate_left
                      ·simp only [Act.put, List.setIfInBounds_toArray, List.set_cons_zero, List.set_cons_succ, i64_w, i32_w]
                       rfl
                      refine pure_ (i := 7) (N := some 107) (v := ?_) (a' := ?_) #[true, true, true, true, true, true, true, true, false, false, false] rfl rfl (any_of HT_.out (by kernel_rfl)) (fun _ _ _ h => h) (Or.inl ⟨by rfl, ?_⟩) ?_ ?_
                      rotate_left
                      ·intro w'
                       go_simp
                       with_reducible rfl
                      rotate_left
                      ·simp only [Act.put, List.setIfInBounds_toArray, List.set_cons_zero, List.set_cons_succ, i64_w, i32_w]
                       rfl
                      refine take_ (i := 8) (N := some 108) (v := ?_) (a' := ?_) #[true, true, true, true, true, true, true, true, true, false, false] rfl rfl (take_ofW HT_.out HW_.out (by kernel_rfl)) (fun _ _ _ h => h) (Or.inl ⟨by rfl, ?_⟩) hHeld ?_ ?_
                      rotate_left
                      ·rintro w' ⟨s0, s1, s2, s3, s4⟩
                       go_simp
                       with_reducible rfl
                      rotate_left
                      ·simp only [Act.put, List.setIfInBounds_toArray, List.set_cons_zero, List.set_cons_succ, i64_w, i32_w]
                       rfl
                      refine one_ (i := 9) (N := some 18) #[true, true, true, true, true, true, true, true, true, true, false] rfl rfl (one_of HT_.out (by kernel_rfl)) (by decide) (fun K hK => ?_)
                      refine box_step ?hg (N := 18) ?hd (cs := #[.int .i64 0, .int .i64 0, .int .i64 0]) (t := 35) ?hr ?_; (case hd => rfl); (case hg => rfl); (case hr => first | (go_simp; done) | (go_simp; rfl))
                      intro gb150 hg w58 hbox hb
                      have n0_ := Aside0.mk (blk_below (g := gb131) (o := .cells #[.slice (some ad149) l0_0.length c0_0, .int .i64 a0_1] 24 (0, 0)) (by (with_reducible repeat (first | refine blk_drewN ?_ _ | refine blk_drew ?_ | refine blk_alloc ?_ _)); exact BK131.out) hb); have n1_ := Aside0.mk (blk_below (g := gb140) (o := .cells #[.int .i64 t134, .int .i64 t135, .int .i64 t136, .bool t137] 30 (0, 0)) (by (with_reducible repeat (first | refine blk_drewN ?_ _ | refine blk_drew ?_ | refine blk_alloc ?_ _)); exact BK140.out) hb); have n2_ := Aside0.mk (blk_below (g := gb148) (o := .cells #[.int .i64 t142, .int .i64 t143, .int .i64 t144, .bool t145] 30 (0, 0)) (by (with_reducible repeat (first | refine blk_drewN ?_ _ | refine blk_drew ?_ | refine blk_alloc ?_ _)); exact BK148.out) hb); have n3_ := Aside0.mk (below_step (by repeat (first | (with_reducible first | exact HB.out | apply below_alloc | apply pw_below_drewN | apply below_drew1 | refine below_set ?_ GE131.out | refine below_set ?_ GE140.out | refine below_set ?_ GE148.out) | exact HB.out)) hb); have n4_ := Aside0.mk (hbox); have n5_ := Aside0.mk ((by rw [hg]; exact (below_size (by repeat (first | (with_reducible first | exact HB.out | apply below_alloc | apply pw_below_drewN | apply below_drew1 | refine below_set ?_ GE131.out | refine below_set ?_ GE140.out | refine below_set ?_ GE148.out) | exact HB.out))) : w.heap.size ≤ gb150)); have n6_ := Aside0.mk ((by rw [hg]; exact (below_size (by repeat (first | (with_reducible first | exact HB.out | apply below_alloc | apply pw_below_drewN | apply below_drew1 | refine below_set ?_ GE131.out | refine below_set ?_ GE140.out | refine below_set ?_ GE148.out) | exact HB.out))) : w.heap.size ≤ gb150))
                      have n7_ := Aside0.mk ((by rw [hg]; exact Nat.ne_of_lt (blk_lt (g := gb131) (o := .cells #[.slice (some ad149) l0_0.length c0_0, .int .i64 a0_1] 24 (0, 0)) (by (with_reducible repeat (first | refine blk_drewN ?_ _ | refine blk_drew ?_ | refine blk_alloc ?_ _)); exact BK131.out)) : gb131 ≠ gb150)); have n8_ := Aside0.mk ((by rw [hg]; exact Nat.ne_of_gt (blk_lt (g := gb131) (o := .cells #[.slice (some ad149) l0_0.length c0_0, .int .i64 a0_1] 24 (0, 0)) (by (with_reducible repeat (first | refine blk_drewN ?_ _ | refine blk_drew ?_ | refine blk_alloc ?_ _)); exact BK131.out)) : gb150 ≠ gb131)); have n9_ := Aside0.mk ((by rw [hg]; exact Nat.ne_of_lt (blk_lt (g := gb140) (o := .cells #[.int .i64 t134, .int .i64 t135, .int .i64 t136, .bool t137] 30 (0, 0)) (by (with_reducible repeat (first | refine blk_drewN ?_ _ | refine blk_drew ?_ | refine blk_alloc ?_ _)); exact BK140.out)) : gb140 ≠ gb150)); have n10_ := Aside0.mk ((by rw [hg]; exact Nat.ne_of_gt (blk_lt (g := gb140) (o := .cells #[.int .i64 t134, .int .i64 t135, .int .i64 t136, .bool t137] 30 (0, 0)) (by (with_reducible repeat (first | refine blk_drewN ?_ _ | refine blk_drew ?_ | refine blk_alloc ?_ _)); exact BK140.out)) : gb150 ≠ gb140)); have n11_ := Aside0.mk ((by rw [hg]; exact Nat.ne_of_lt (blk_lt (g := gb148) (o := .cells #[.int .i64 t142, .int .i64 t143, .int .i64 t144, .bool t145] 30 (0, 0)) (by (with_reducible repeat (first | refine blk_drewN ?_ _ | refine blk_drew ?_ | refine blk_alloc ?_ _)); exact BK148.out)) : gb148 ≠ gb150))
                      have n12_ := Aside0.mk ((by rw [hg]; exact Nat.ne_of_gt (blk_lt (g := gb148) (o := .cells #[.int .i64 t142, .int .i64 t143, .int .i64 t144, .bool t145] 30 (0, 0)) (by (with_reducible repeat (first | refine blk_drewN ?_ _ | refine blk_drew ?_ | refine blk_alloc ?_ _)); exact BK148.out)) : gb150 ≠ gb148)); clear BK131; clear BK140; clear BK148; clear HB; have BK131 := n0_; have BK140 := n1_; have BK148 := n2_; have HB := n3_; have BK150 := n4_; have GW150 := n5_; have GE150 := n6_; have NB131_150 := n7_; have NB150_131 := n8_; have NB140_150 := n9_; have NB150_140 := n10_; have NB148_150 := n11_; have NB150_148 := n12_; clear n0_ n1_ n2_ n3_ n4_ n5_ n6_ n7_ n8_ n9_ n10_ n11_ n12_; clear hb hbox hg
                      refine hK.out _ _ ⟨(blk_cell BK131.out 0).trans rfl, (blk_cell BK131.out 1).trans rfl, ((HB.out.cell (World.block_lt_of_cell? w _ hw149_0)).trans hw149_0), ((HB.out.cell (World.block_lt_of_cell? w _ hw149_1)).trans hw149_1), ((HB.out.cell (World.block_lt_of_cell? w _ hw149_2)).trans hw149_2)⟩ (fun hHeld => ?_)
                      clear hK K
                      refine norm_ (a' := ?_) ?_ ?_
                      rotate_left
                      ·show Act.put _ (some 18) _ = _
                       simp only [Act.put, List.setIfInBounds_toArray, List.set_cons_zero, List.set_cons_succ, i64_w, i32_w]
                       rfl
                      refine one_ (i := 10) (N := none) #[true, true, true, true, true, true, true, true, true, true, true] rfl rfl (one_of HT_.out (by kernel_rfl)) (by decide) (fun K hK => ?_)
                      have hs59 : w58.cell? ⟨gb150, 0, none⟩ = some (.int .i64 0) := (blk_cell BK150.out 0).trans rfl; have hfs59 := blk_frozen BK150.out 0; have hns59_0 := NB131_150.out; have hns59_1 := NB140_150.out; have hns59_2 := NB148_150.out; have hms59_0 := NB150_131.out; have hms59_1 := NB150_140.out; have hms59_2 := NB150_148.out; have hs60 : w58.cell? ⟨gb150, 1, none⟩ = some (.int .i64 0) := (blk_cell BK150.out 1).trans rfl; have hfs60 := blk_frozen BK150.out 1; have hns60_0 := NB131_150.out; have hns60_1 := NB140_150.out; have hns60_2 := NB148_150.out; have hms60_0 := NB150_131.out; have hms60_1 := NB150_140.out; have hms60_2 := NB150_148.out; have hs61 : w58.cell? ⟨gb150, 2, none⟩ = some (.int .i64 0) := (blk_cell BK150.out 2).trans rfl; have hfs61 := blk_frozen BK150.out 2; have hns61_0 := NB131_150.out; have hns61_1 := NB140_150.out; have hns61_2 := NB148_150.out; have hms61_0 := NB150_131.out; have hms61_1 := NB150_140.out; have hms61_2 := NB150_148.out
                      refine skip_ (w1 := ?_) (by rfl) rfl ?_ ?_
                      rotate_left
                      ·go_simp
                       rfl
                      refine hK.out _ _ ⟨((cell_far (p := ⟨gb150, _, none⟩) NB131_150.out _).trans (((cell_far (p := ⟨gb150, _, none⟩) NB131_150.out _).trans (((cell_far (p := ⟨gb150, _, none⟩) NB131_150.out _).trans (hHeld.1)))))), ((cell_far (p := ⟨gb150, _, none⟩) NB131_150.out _).trans (((cell_far (p := ⟨gb150, _, none⟩) NB131_150.out _).trans (((cell_far (p := ⟨gb150, _, none⟩) NB131_150.out _).trans (hHeld.2.1)))))), ((cell_far (p := ⟨gb150, _, none⟩) (by first | exact Nat.ne_of_lt (Nat.lt_of_lt_of_le (by have := World.block_lt_of_cell? _ _ hw149_0; first | rwa [add_block] at this | exact this) GW150.out) | (rw [add_block]; exact Nat.ne_of_lt (Nat.lt_of_lt_of_le (by have := World.block_lt_of_cell? _ _ hw149_0; first | rwa [add_block] at this | exact this) GW150.out)) | (show (Addr.add _ _).block ≠ _; rw [add_block]; exact Nat.ne_of_lt (Nat.lt_of_lt_of_le (by have := World.block_lt_of_cell? _ _ hw149_0; first | rwa [add_block] at this | exact this) GW150.out)) | (dsimp only; exact Nat.ne_of_lt (Nat.lt_of_lt_of_le (by have := World.block_lt_of_cell? _ _ hw149_0; first | rwa [add_block] at this | exact this) GW150.out))) _).trans (((cell_far (p := ⟨gb150, _, none⟩) (by first | exact Nat.ne_of_lt (Nat.lt_of_lt_of_le (by have := World.block_lt_of_cell? _ _ hw149_0; first | rwa [add_block] at this | exact this) GW150.out) | (rw [add_block]; exact Nat.ne_of_lt (Nat.lt_of_lt_of_le (by have := World.block_lt_of_cell? _ _ hw149_0; first | rwa [add_block] at this | exact this) GW150.out)) | (show (Addr.add _ _).block ≠ _; rw [add_block]; exact Nat.ne_of_lt (Nat.lt_of_lt_of_le (by have := World.block_lt_of_cell? _ _ hw149_0; first | rwa [add_block] at this | exact this) GW150.out)) | (dsimp only; exact Nat.ne_of_lt (Nat.lt_of_lt_of_le (by have := World.block_lt_of_cell? _ _ hw149_0; first | rwa [add_block] at this | exact this) GW150.out))) _).trans (((cell_far (p := ⟨gb150, _, none⟩) (by first | exact Nat.ne_of_lt (Nat.lt_of_lt_of_le (by have := World.block_lt_of_cell? _ _ hw149_0; first | rwa [add_block] at this | exact this) GW150.out) | (rw [add_block]; exact Nat.ne_of_lt (Nat.lt_of_lt_of_le (by have := World.block_lt_of_cell? _ _ hw149_0; first | rwa [add_block] at this | exact this) GW150.out)) | (show (Addr.add _ _).block ≠ _; rw [add_block]; exact Nat.ne_of_lt (Nat.lt_of_lt_of_le (by have := World.block_lt_of_cell? _ _ hw149_0; first | rwa [add_block] at this | exact this) GW150.out)) | (dsimp only; exact Nat.ne_of_lt (Nat.lt_of_lt_of_le (by have := World.block_lt_of_cell? _ _ hw149_0; first | rwa [add_block] at this | exact this) GW150.out))) _).trans (hHeld.2.2.1)))))), ((cell_far (p := ⟨gb150, _, none⟩) (by first | exact Nat.ne_of_lt (Nat.lt_of_lt_of_le (by have := World.block_lt_of_cell? _ _ hw149_1; first | rwa [add_block] at this | exact this) GW150.out) | (rw [add_block]; exact Nat.ne_of_lt (Nat.lt_of_lt_of_le (by have := World.block_lt_of_cell? _ _ hw149_1; first | rwa [add_block] at this | exact this) GW150.out)) | (show (Addr.add _ _).block ≠ _; rw [add_block]; exact Nat.ne_of_lt (Nat.lt_of_lt_of_le (by have := World.block_lt_of_cell? _ _ hw149_1; first | rwa [add_block] at this | exact this) GW150.out)) | (dsimp only; exact Nat.ne_of_lt (Nat.lt_of_lt_of_le (by have := World.block_lt_of_cell? _ _ hw149_1; first | rwa [add_block] at this | exact this) GW150.out))) _).trans (((cell_far (p := ⟨gb150, _, none⟩) (by first | exact Nat.ne_of_lt (Nat.lt_of_lt_of_le (by have := World.block_lt_of_cell? _ _ hw149_1; first | rwa [add_block] at this | exact this) GW150.out) | (rw [add_block]; exact Nat.ne_of_lt (Nat.lt_of_lt_of_le (by have := World.block_lt_of_cell? _ _ hw149_1; first | rwa [add_block] at this | exact this) GW150.out)) | (show (Addr.add _ _).block ≠ _; rw [add_block]; exact Nat.ne_of_lt (Nat.lt_of_lt_of_le (by have := World.block_lt_of_cell? _ _ hw149_1; first | rwa [add_block] at this | exact this) GW150.out)) | (dsimp only; exact Nat.ne_of_lt (Nat.lt_of_lt_of_le (by have := World.block_lt_of_cell? _ _ hw149_1; first | rwa [add_block] at this | exact this) GW150.out))) _).trans (((cell_far (p := ⟨gb150, _, none⟩) (by first | exact Nat.ne_of_lt (Nat.lt_of_lt_of_le (by have := World.block_lt_of_cell? _ _ hw149_1; first | rwa [add_block] at this | exact this) GW150.out) | (rw [add_block]; exact Nat.ne_of_lt (Nat.lt_of_lt_of_le (by have := World.block_lt_of_cell? _ _ hw149_1; first | rwa [add_block] at this | exact this) GW150.out)) | (show (Addr.add _ _).block ≠ _; rw [add_block]; exact Nat.ne_of_lt (Nat.lt_of_lt_of_le (by have := World.block_lt_of_cell? _ _ hw149_1; first | rwa [add_block] at this | exact this) GW150.out)) | (dsimp only; exact Nat.ne_of_lt (Nat.lt_of_lt_of_le (by have := World.block_lt_of_cell? _ _ hw149_1; first | rwa [add_block] at this | exact this) GW150.out))) _).trans (hHeld.2.2.2.1)))))), ((cell_far (p := ⟨gb150, _, none⟩) (by first | exact Nat.ne_of_lt (Nat.lt_of_lt_of_le (by have := World.block_lt_of_cell? _ _ hw149_2; first | rwa [add_block] at this | exact this) GW150.out) | (rw [add_block]; exact Nat.ne_of_lt (Nat.lt_of_lt_of_le (by have := World.block_lt_of_cell? _ _ hw149_2; first | rwa [add_block] at this | exact this) GW150.out)) | (show (Addr.add _ _).block ≠ _; rw [add_block]; exact Nat.ne_of_lt (Nat.lt_of_lt_of_le (by have := World.block_lt_of_cell? _ _ hw149_2; first | rwa [add_block] at this | exact this) GW150.out)) | (dsimp only; exact Nat.ne_of_lt (Nat.lt_of_lt_of_le (by have := World.block_lt_of_cell? _ _ hw149_2; first | rwa [add_block] at this | exact this) GW150.out))) _).trans (((cell_far (p := ⟨gb150, _, none⟩) (by first | exact Nat.ne_of_lt (Nat.lt_of_lt_of_le (by have := World.block_lt_of_cell? _ _ hw149_2; first | rwa [add_block] at this | exact this) GW150.out) | (rw [add_block]; exact Nat.ne_of_lt (Nat.lt_of_lt_of_le (by have := World.block_lt_of_cell? _ _ hw149_2; first | rwa [add_block] at this | exact this) GW150.out)) | (show (Addr.add _ _).block ≠ _; rw [add_block]; exact Nat.ne_of_lt (Nat.lt_of_lt_of_le (by have := World.block_lt_of_cell? _ _ hw149_2; first | rwa [add_block] at this | exact this) GW150.out)) | (dsimp only; exact Nat.ne_of_lt (Nat.lt_of_lt_of_le (by have := World.block_lt_of_cell? _ _ hw149_2; first | rwa [add_block] at this | exact this) GW150.out))) _).trans (((cell_far (p := ⟨gb150, _, none⟩) (by first | exact Nat.ne_of_lt (Nat.lt_of_lt_of_le (by have := World.block_lt_of_cell? _ _ hw149_2; first | rwa [add_block] at this | exact this) GW150.out) | (rw [add_block]; exact Nat.ne_of_lt (Nat.lt_of_lt_of_le (by have := World.block_lt_of_cell? _ _ hw149_2; first | rwa [add_block] at this | exact this) GW150.out)) | (show (Addr.add _ _).block ≠ _; rw [add_block]; exact Nat.ne_of_lt (Nat.lt_of_lt_of_le (by have := World.block_lt_of_cell? _ _ hw149_2; first | rwa [add_block] at this | exact this) GW150.out)) | (dsimp only; exact Nat.ne_of_lt (Nat.lt_of_lt_of_le (by have := World.block_lt_of_cell? _ _ hw149_2; first | rwa [add_block] at this | exact this) GW150.out))) _).trans (hHeld.2.2.2.2))))))⟩ (fun hHeld => ?_)
                      clear hK K
                      refine done_ (done_of HT_.out (by kernel_rfl)) ?_
                      try go_wp2
                      have n0_ : Aside0 ((((w58.setCell ⟨gb150, 0, none⟩ (.int .i64 ((rd_T35 l0_0 (ji48)).f0))).setCell ⟨gb150, 1, none⟩ (.int .i64 ((rd_T35 l0_0 (ji48)).f1))).setCell ⟨gb150, 2, none⟩ (.int .i64 ((rd_T35 l0_0 (ji48)).f2))).heap[gb131]? = some (.cells #[.slice (some ad149) l0_0.length c0_0, .int .i64 a0_1] 24 (0, 0))) := ⟨by (with_reducible repeat (first | refine blk_drewN ?_ _ | refine blk_drew ?_ | refine blk_alloc ?_ _)); refine blk_far ?_ NB131_150.out _; (with_reducible repeat (first | refine blk_drewN ?_ _ | refine blk_drew ?_ | refine blk_alloc ?_ _)); refine blk_far ?_ NB131_150.out _; (with_reducible repeat (first | refine blk_drewN ?_ _ | refine blk_drew ?_ | refine blk_alloc ?_ _)); refine blk_far ?_ NB131_150.out _; (with_reducible repeat (first | refine blk_drewN ?_ _ | refine blk_drew ?_ | refine blk_alloc ?_ _)); exact BK131.out⟩; have n1_ : Aside0 ((((w58.setCell ⟨gb150, 0, none⟩ (.int .i64 ((rd_T35 l0_0 (ji48)).f0))).setCell ⟨gb150, 1, none⟩ (.int .i64 ((rd_T35 l0_0 (ji48)).f1))).setCell ⟨gb150, 2, none⟩ (.int .i64 ((rd_T35 l0_0 (ji48)).f2))).heap[gb140]? = some (.cells #[.int .i64 t134, .int .i64 t135, .int .i64 t136, .bool t137] 30 (0, 0))) := ⟨by (with_reducible repeat (first | refine blk_drewN ?_ _ | refine blk_drew ?_ | refine blk_alloc ?_ _)); refine blk_far ?_ NB140_150.out _; (with_reducible repeat (first | refine blk_drewN ?_ _ | refine blk_drew ?_ | refine blk_alloc ?_ _)); refine blk_far ?_ NB140_150.out _; (with_reducible repeat (first | refine blk_drewN ?_ _ | refine blk_drew ?_ | refine blk_alloc ?_ _)); refine blk_far ?_ NB140_150.out _; (with_reducible repeat (first | refine blk_drewN ?_ _ | refine blk_drew ?_ | refine blk_alloc ?_ _)); exact BK140.out⟩
                      have n2_ : Aside0 ((((w58.setCell ⟨gb150, 0, none⟩ (.int .i64 ((rd_T35 l0_0 (ji48)).f0))).setCell ⟨gb150, 1, none⟩ (.int .i64 ((rd_T35 l0_0 (ji48)).f1))).setCell ⟨gb150, 2, none⟩ (.int .i64 ((rd_T35 l0_0 (ji48)).f2))).heap[gb148]? = some (.cells #[.int .i64 t142, .int .i64 t143, .int .i64 t144, .bool t145] 30 (0, 0))) := ⟨by (with_reducible repeat (first | refine blk_drewN ?_ _ | refine blk_drew ?_ | refine blk_alloc ?_ _)); refine blk_far ?_ NB148_150.out _; (with_reducible repeat (first | refine blk_drewN ?_ _ | refine blk_drew ?_ | refine blk_alloc ?_ _)); refine blk_far ?_ NB148_150.out _; (with_reducible repeat (first | refine blk_drewN ?_ _ | refine blk_drew ?_ | refine blk_alloc ?_ _)); refine blk_far ?_ NB148_150.out _; (with_reducible repeat (first | refine blk_drewN ?_ _ | refine blk_drew ?_ | refine blk_alloc ?_ _)); exact BK148.out⟩; have n3_ : Aside0 ((((w58.setCell ⟨gb150, 0, none⟩ (.int .i64 ((rd_T35 l0_0 (ji48)).f0))).setCell ⟨gb150, 1, none⟩ (.int .i64 ((rd_T35 l0_0 (ji48)).f1))).setCell ⟨gb150, 2, none⟩ (.int .i64 ((rd_T35 l0_0 (ji48)).f2))).heap[gb150]? = some (.cells #[.int .i64 ((rd_T35 l0_0 (ji48)).f0), .int .i64 ((rd_T35 l0_0 (ji48)).f1), .int .i64 ((rd_T35 l0_0 (ji48)).f2)] 35 (0, 0))) := ⟨by (with_reducible repeat (first | refine blk_drewN ?_ _ | refine blk_drew ?_ | refine blk_alloc ?_ _)); refine blk_put (cs := #[.int .i64 ((rd_T35 l0_0 (ji48)).f0), .int .i64 ((rd_T35 l0_0 (ji48)).f1), .int .i64 0]) ?_ 2 _ rfl; (with_reducible repeat (first | refine blk_drewN ?_ _ | refine blk_drew ?_ | refine blk_alloc ?_ _)); refine blk_put (cs := #[.int .i64 ((rd_T35 l0_0 (ji48)).f0), .int .i64 0, .int .i64 0]) ?_ 1 _ rfl; (with_reducible repeat (first | refine blk_drewN ?_ _ | refine blk_drew ?_ | refine blk_alloc ?_ _)); refine blk_put (cs := #[.int .i64 0, .int .i64 0, .int .i64 0]) ?_ 0 _ rfl; (with_reducible repeat (first | refine blk_drewN ?_ _ | refine blk_drew ?_ | refine blk_alloc ?_ _)); exact BK150.out⟩
                      have n4_ : Aside0 (Below w.heap.size w (((w58.setCell ⟨gb150, 0, none⟩ (.int .i64 ((rd_T35 l0_0 (ji48)).f0))).setCell ⟨gb150, 1, none⟩ (.int .i64 ((rd_T35 l0_0 (ji48)).f1))).setCell ⟨gb150, 2, none⟩ (.int .i64 ((rd_T35 l0_0 (ji48)).f2)))) := ⟨by repeat (first | (with_reducible first | exact HB.out | apply below_alloc | apply pw_below_drewN | apply below_drew1 | refine below_set ?_ GE131.out | refine below_set ?_ GE140.out | refine below_set ?_ GE148.out | refine below_set ?_ GE150.out) | exact HB.out)⟩
                      (try clear BK131)
                      (try clear BK140)
                      (try clear BK148)
                      (try clear BK150)
                      (try clear HB)
                      generalize (((w58.setCell ⟨gb150, 0, none⟩ (.int .i64 ((rd_T35 l0_0 (ji48)).f0))).setCell ⟨gb150, 1, none⟩ (.int .i64 ((rd_T35 l0_0 (ji48)).f1))).setCell ⟨gb150, 2, none⟩ (.int .i64 ((rd_T35 l0_0 (ji48)).f2))) = w62 at n0_ n1_ n2_ n3_ n4_ ⊢
                      have BK131 := n0_; have BK140 := n1_; have BK148 := n2_; have BK150 := n3_; have HB := n4_; clear n0_ n1_ n2_ n3_ n4_; have n0_ := Aside0.mk (blk_drew BK131.out); have n1_ := Aside0.mk (blk_drew BK140.out); have n2_ := Aside0.mk (blk_drew BK148.out); have n3_ := Aside0.mk (blk_drew BK150.out); have n4_ := Aside0.mk (below_drew1 HB.out); clear BK131; clear BK140; clear BK148; clear BK150; clear HB; have BK131 := n0_; have BK140 := n1_; have BK148 := n2_; have BK150 := n3_; have HB := n4_; clear n0_ n1_ n2_ n3_ n4_; have p151 : 0 ≤ (x17_3 : Int) := of_decide_eq_true (by first | (with_reducible assumption) | assumption); have q151 : x17_3 < (l1.length : Int) := of_decide_eq_true (by first | (with_reducible assumption) | assumption)
                      obtain ⟨ad151, e151, hx151_0⟩ := Kd.at_int HR1.out x17_3 p151 q151
                      have hw151_0 := hx151_0
                      cases e151
                      replace hx151_0 := (HB.out.cell (World.block_lt_of_cell? w _ hx151_0)).trans hx151_0; replace p151 := eq_true p151; replace q151 := eq_true q151; have p152 : 0 ≤ ((ji52) : Int) := of_decide_eq_true (by first | (with_reducible assumption) | assumption); have q152 : (ji52) < (l1.length : Int) := of_decide_eq_true (by first | (with_reducible assumption) | assumption)
                      obtain ⟨ad152, e152, hx152_0⟩ := Kd.at_int HR1.out (ji52) p152 q152
                      have hw152_0 := hx152_0; obtain rfl : ad151 = ad152 := (by injection e152); replace hx152_0 := (HB.out.cell (World.block_lt_of_cell? w _ hx152_0)).trans hx152_0; replace p152 := eq_true p152; replace q152 := eq_true q152
                      refine start_ (n := 11) (S := fun w' => w'.cell? (ad151.add (x17_3).toNat) = some (.int .i64 (rd l1 x17_3)) ∧ w'.cell? (ad151.add ((ji52)).toNat) = some (.int .i64 (rd l1 (ji52)))) (ds := []) #[false, false, false, false, false, false, false, false, false, false, false] (by kernel_rfl) rfl rfl ⟨((HB.out.cell (World.block_lt_of_cell? w _ hw151_0)).trans hw151_0), ((HB.out.cell (World.block_lt_of_cell? w _ hw152_0)).trans hw152_0)⟩ (fun hHeld => ?_); refine with_tabW observatorylaw24_CadenceReplays.tab15 observatorylaw24_CadenceReplays.bits15 (fun HT_ HW_ => ?_)
                      generalize w62.drew = w63 at BK131 BK140 BK148 BK150 HB hx151_0 hx152_0 hHeld ⊢
                      refine pure_ (i := 0) (N := some 109) (v := ?_) (a' := ?_) #[true, false, false, false, false, false, false, false, false, false, false] rfl rfl (any_of HT_.out (by kernel_rfl)) (fun _ _ _ h => h) (Or.inl ⟨by rfl, ?_⟩) ?_ ?_
                      rotate_left
                      ·intro w'
                       go_simp
                       with_reducible rfl
                      rotate_left
                      ·simp only [Act.put, List.setIfInBounds_toArray, List.set_cons_zero, List.set_cons_succ, i64_w, i32_w]
                       rfl
                      refine pure_ (i := 1) (N := some 110) (v := ?_) (a' := ?_) #[true, true, false, false, false, false, false, false, false, false, false] rfl rfl (any_of HT_.out (by kernel_rfl)) (fun _ _ _ h => h) (Or.inl ⟨by rfl, ?_⟩) ?_ ?_
                      rotate_left
                      ·intro w'
                       go_simp
                       with_reducible rfl
                      rotate_left
                      ·simp only [Act.put, List.setIfInBounds_toArray, List.set_cons_zero, List.set_cons_succ, i64_w, i32_w]
                       rfl
                      refine pure_ (i := 2) (N := some 111) (v := ?_) (a' := ?_) #[true, true, true, false, false, false, false, false, false, false, false] rfl rfl (any_of HT_.out (by kernel_rfl)) (fun _ _ _ h => h) (Or.inl ⟨by rfl, ?_⟩) ?_ ?_
                      rotate_left
                      ·intro w'
                       go_simp
                       with_reducible rfl
                      rotate_left
                      ·simp only [Act.put, List.setIfInBounds_toArray, List.set_cons_zero, List.set_cons_succ, i64_w, i32_w]
                       rfl
                      refine pure_ (i := 4) (N := some 113) (v := ?_) (a' := ?_) #[true, true, true, false, true, false, false, false, false, false, false] rfl rfl (any_of HT_.out (by kernel_rfl)) (fun _ _ _ h => h) (Or.inl ⟨by rfl, ?_⟩) ?_ ?_
                      rotate_left
                      ·intro w'
                       go_simp
                       with_reducible rfl
                      rotate_left
                      ·simp only [Act.put, List.setIfInBounds_toArray, List.set_cons_zero, List.set_cons_succ, i64_w, i32_w]
                       rfl
                      refine pure_ (i := 5) (N := some 114) (v := ?_) (a' := ?_) #[true, true, true, false, true, true, false, false, false, false, false] rfl rfl (any_of HT_.out (by kernel_rfl)) (fun _ _ _ h => h) (Or.inl ⟨by rfl, ?_⟩) ?_ ?_
                      rotate_left
                      ·intro w'
                       go_simp
                       with_reducible rfl
                      rotate_left
                      ·simp only [Act.put, List.setIfInBounds_toArray, List.set_cons_zero, List.set_cons_succ, i64_w, i32_w]
                       rfl
                      refine pure_ (i := 6) (N := some 115) (v := ?_) (a' := ?_) #[true, true, true, false, true, true, true, false, false, false, false] rfl rfl (any_of HT_.out (by kernel_rfl)) (fun _ _ _ h => h) (Or.inl ⟨by rfl, ?_⟩) ?_ ?_
                      rotate_left
                      ·intro w'
                       go_simp
                       with_reducible rfl
                      rotate_left
                      ·simp only [Act.put, List.setIfInBounds_toArray, List.set_cons_zero, List.set_cons_succ, i64_w, i32_w]
                       rfl
                      refine pure_ (i := 7) (N := some 116) (v := ?_) (a' := ?_) #[true, true, true, false, true, true, true, true, false, false, false] rfl rfl (any_of HT_.out (by kernel_rfl)) (fun _ _ _ h => h) (Or.inl ⟨by rfl, ?_⟩) ?_ ?_
                      rotate_left
                      ·intro w'
                       go_simp
                       with_reducible rfl
                      rotate_left
                      ·simp only [Act.put, List.setIfInBounds_toArray, List.set_cons_zero, List.set_cons_succ, i64_w, i32_w]
                       rfl
                      refine take_ (i := 3) (N := some 112) (v := ?_) (a' := ?_) #[true, true, true, true, true, true, true, true, false, false, false] rfl rfl (take_ofW HT_.out HW_.out (by kernel_rfl)) (fun _ _ _ h => h) (Or.inl ⟨by rfl, ?_⟩) hHeld ?_ ?_
                      rotate_left
                      ·rintro w' ⟨s0, s1⟩
                       go_simp
                       with_reducible rfl
                      rotate_left
                      ·simp only [Act.put, List.setIfInBounds_toArray, List.set_cons_zero, List.set_cons_succ, i64_w, i32_w]
                       rfl
                      refine take_ (i := 8) (N := some 117) (v := ?_) (a' := ?_) #[true, true, true, true, true, true, true, true, true, false, false] rfl rfl (take_ofW HT_.out HW_.out (by kernel_rfl)) (fun _ _ _ h => h) (Or.inl ⟨by rfl, ?_⟩) hHeld ?_ ?_
                      rotate_left
                      ·rintro w' ⟨s0, s1⟩
                       go_simp
                       with_reducible rfl
                      rotate_left
                      ·simp only [Act.put, List.setIfInBounds_toArray, List.set_cons_zero, List.set_cons_succ, i64_w, i32_w]
                       rfl
                      refine pure_ (i := 9) (N := some 118) (v := ?_) (a' := ?_) #[true, true, true, true, true, true, true, true, true, true, false] rfl rfl (any_of HT_.out (by kernel_rfl)) (fun _ _ _ h => h) (Or.inl ⟨by rfl, ?_⟩) ?_ ?_
                      rotate_left
                      ·intro w'
                       go_simp
                       with_reducible rfl
                      rotate_left
                      ·simp only [Act.put, List.setIfInBounds_toArray, List.set_cons_zero, List.set_cons_succ, i64_w, i32_w]
                       rfl
                      refine pure_ (i := 10) (N := some 19) (v := ?_) (a' := ?_) #[true, true, true, true, true, true, true, true, true, true, true] rfl rfl (any_of HT_.out (by kernel_rfl)) (fun _ _ _ h => h) (Or.inl ⟨by rfl, ?_⟩) ?_ ?_
                      rotate_left
                      ·intro w'
                       go_simp
                       with_reducible rfl
                      rotate_left
                      ·simp only [Act.put, List.setIfInBounds_toArray, List.set_cons_zero, List.set_cons_succ, i64_w, i32_w]
                       rfl
                      refine done_ (done_of HT_.out (by kernel_rfl)) ?_
                      have hnb64 := NB150_131.out; have hnc64 := NB131_150.out; have hnb65 := NB150_140.out; have hnc65 := NB140_150.out; have hnb66 := NB150_148.out; have hnc66 := NB148_150.out; have hcz67_0 : w63.cell? ⟨gb150, 0, none⟩ = some (.int .i64 ((rd_T35 l0_0 (ji48)).f0)) := (blk_cell BK150.out 0).trans rfl; have hcz67_1 : w63.cell? ⟨gb150, 1, none⟩ = some (.int .i64 ((rd_T35 l0_0 (ji48)).f1)) := (blk_cell BK150.out 1).trans rfl; have hcz67_2 : w63.cell? ⟨gb150, 2, none⟩ = some (.int .i64 ((rd_T35 l0_0 (ji48)).f2)) := (blk_cell BK150.out 2).trans rfl; have hfz67_0 := blk_frozen BK150.out 0; have hfz67_1 := blk_frozen BK150.out 1; have hfz67_2 := blk_frozen BK150.out 2
                      try go_wp2
                      go_roundg k3
                      case measure => have := HJ5.out; have := HJ22.out; have := HK3.out; omega
                      case rel => exact ⟨(wrap64 (x17_3 + 1)), (by first | rfl | (simp; done) | (simp [*]; done)), H', ⟨by have := HJ5.out; have := HJ22.out; have := HK3.out; omega⟩, ⟨by (with_reducible repeat (first | refine blk_drewN ?_ _ | refine blk_drew ?_ | refine blk_alloc ?_ _)); exact BK131.out⟩, ⟨by (with_reducible repeat (first | refine blk_drewN ?_ _ | refine blk_drew ?_ | refine blk_alloc ?_ _)); exact BK140.out⟩, ⟨by (with_reducible repeat (first | refine blk_drewN ?_ _ | refine blk_drew ?_ | refine blk_alloc ?_ _)); exact BK148.out⟩, ⟨by repeat (first | (with_reducible first | exact HB.out | apply below_alloc | apply pw_below_drewN | apply below_drew1 | refine below_set ?_ GE131.out | refine below_set ?_ GE140.out | refine below_set ?_ GE148.out | refine below_set ?_ GE150.out) | exact HB.out)⟩⟩
                   ·rw [if_neg c54] at H
                    exact absurd H (by simp)
                  ·rw [if_neg c53] at H
                   exact absurd H (by simp)
                 ·rw [if_neg c51] at H
                  exact absurd H (by simp)
                ·rw [if_neg c50] at H
                 exact absurd H (by simp)
               ·rw [if_neg c49] at H
                exact absurd H (by simp)
             ·rw [if_neg c46] at H
              have c46b0 : decide (x17_3 < (l1.length : Int)) = false := decide_eq_false c46; clear c46; replace H := Option.bind_eq_some_iff.mp H
              obtain ⟨⟨t153, t154, t155, t156, t157⟩, A680, H⟩ := H
              replace H : ((some (([] : List Int) : List Int)).bind fun y159 => (if y159.length + l1.length < 17592186044416 then ((some (y159 ++ l1 : List Int)).bind fun y162 => ((some (([a2] : List Int) : List Int)).bind fun y165 => (if y162.length + y165.length < 17592186044416 then ((cadence_Replay.f k3 l0_0 a0_1 (y162 ++ y165)).bind fun bt171 => (if t157 = 0 then (if t132 = true then (if bt171.2.2.2.2.2 = 0 then (if bt171.2.2.2.2.1 = (wrap64 ((l1.length : Int) + 1)) then (some (bt171.1 == t153 && (bt171.2.1 == t154 && (bt171.2.2.1 == t155 && (bt171.2.2.2.1 == t156))))) else (some false)) else (some false)) else (some false)) else (if t132 = true then (if bt171.2.2.2.2.2 = t157 then (some (bt171.2.2.2.2.1 == (l1.length : Int))) else (some false)) else (some false)))) else (none)))) else (none))) = some r := H; have A68 := Aside0.mk A680; clear A680
              obtain ⟨y159, hy159⟩ : ∃ y_ : List Int, y_ = (([] : List Int)) := ⟨_, rfl⟩
              replace H : (if y159.length + l1.length < 17592186044416 then ((some (y159 ++ l1 : List Int)).bind fun y162 => ((some (([a2] : List Int) : List Int)).bind fun y165 => (if y162.length + y165.length < 17592186044416 then ((cadence_Replay.f k3 l0_0 a0_1 (y162 ++ y165)).bind fun bt171 => (if t157 = 0 then (if t132 = true then (if bt171.2.2.2.2.2 = 0 then (if bt171.2.2.2.2.1 = (wrap64 ((l1.length : Int) + 1)) then (some (bt171.1 == t153 && (bt171.2.1 == t154 && (bt171.2.2.1 == t155 && (bt171.2.2.2.1 == t156))))) else (some false)) else (some false)) else (some false)) else (if t132 = true then (if bt171.2.2.2.2.2 = t157 then (some (bt171.2.2.2.2.1 == (l1.length : Int))) else (some false)) else (some false)))) else (none)))) else (none)) = some r := by first | (rw [hy159]; with_reducible exact H) | (have H2_ := (Option.bind_some _ _).symm.trans H; rw [hy159]; with_reducible exact H2_) | (have H2_ := (Option.bind_some _ _).symm.trans H; with_reducible exact H2_) | with_reducible exact H | (rw [hy159]; exact H) | exact H
              have Ny159 := Aside0.mk hy159; clear hy159
              by_cases c69 : y159.length + l1.length < 17592186044416
              ·rw [if_pos c69] at H
               have LMc69 := Aside0.mk c69; clear c69
               obtain ⟨y162, hy162⟩ : ∃ y_ : List Int, y_ = (y159 ++ l1) := ⟨_, rfl⟩
               replace H : ((some (([a2] : List Int) : List Int)).bind fun y165 => (if y162.length + y165.length < 17592186044416 then ((cadence_Replay.f k3 l0_0 a0_1 (y162 ++ y165)).bind fun bt171 => (if t157 = 0 then (if t132 = true then (if bt171.2.2.2.2.2 = 0 then (if bt171.2.2.2.2.1 = (wrap64 ((l1.length : Int) + 1)) then (some (bt171.1 == t153 && (bt171.2.1 == t154 && (bt171.2.2.1 == t155 && (bt171.2.2.2.1 == t156))))) else (some false)) else (some false)) else (some false)) else (if t132 = true then (if bt171.2.2.2.2.2 = t157 then (some (bt171.2.2.2.2.1 == (l1.length : Int))) else (some false)) else (some false)))) else (none))) = some r := by first | (rw [hy162]; with_reducible exact H) | (have H2_ := (Option.bind_some _ _).symm.trans H; rw [hy162]; with_reducible exact H2_) | (have H2_ := (Option.bind_some _ _).symm.trans H; with_reducible exact H2_) | with_reducible exact H | (rw [hy162]; exact H) | exact H
               have Ny162 := Aside0.mk hy162; clear hy162
               obtain ⟨y165, hy165⟩ : ∃ y_ : List Int, y_ = (([a2] : List Int)) := ⟨_, rfl⟩
               replace H : (if y162.length + y165.length < 17592186044416 then ((cadence_Replay.f k3 l0_0 a0_1 (y162 ++ y165)).bind fun bt171 => (if t157 = 0 then (if t132 = true then (if bt171.2.2.2.2.2 = 0 then (if bt171.2.2.2.2.1 = (wrap64 ((l1.length : Int) + 1)) then (some (bt171.1 == t153 && (bt171.2.1 == t154 && (bt171.2.2.1 == t155 && (bt171.2.2.2.1 == t156))))) else (some false)) else (some false)) else (some false)) else (if t132 = true then (if bt171.2.2.2.2.2 = t157 then (some (bt171.2.2.2.2.1 == (l1.length : Int))) else (some false)) else (some false)))) else (none)) = some r := by first | (rw [hy165]; with_reducible exact H) | (have H2_ := (Option.bind_some _ _).symm.trans H; rw [hy165]; with_reducible exact H2_) | (have H2_ := (Option.bind_some _ _).symm.trans H; with_reducible exact H2_) | with_reducible exact H | (rw [hy165]; exact H) | exact H
               have Ny165 := Aside0.mk hy165; clear hy165
               by_cases c70 : y162.length + y165.length < 17592186044416
               ·rw [if_pos c70] at H
                have LMc70 := Aside0.mk c70; clear c70
                obtain ⟨y168, hy168⟩ : ∃ y_ : List Int, y_ = (y162 ++ y165) := ⟨_, rfl⟩
                replace H : ((cadence_Replay.f k3 l0_0 a0_1 y168).bind fun bt171 => (if t157 = 0 then (if t132 = true then (if bt171.2.2.2.2.2 = 0 then (if bt171.2.2.2.2.1 = (wrap64 ((l1.length : Int) + 1)) then (some (bt171.1 == t153 && (bt171.2.1 == t154 && (bt171.2.2.1 == t155 && (bt171.2.2.2.1 == t156))))) else (some false)) else (some false)) else (some false)) else (if t132 = true then (if bt171.2.2.2.2.2 = t157 then (some (bt171.2.2.2.2.1 == (l1.length : Int))) else (some false)) else (some false)))) = some r := by first | (rw [hy168]; with_reducible exact H) | (have H2_ := (Option.bind_some _ _).symm.trans H; rw [hy168]; with_reducible exact H2_) | (have H2_ := (Option.bind_some _ _).symm.trans H; with_reducible exact H2_) | with_reducible exact H | (rw [hy168]; exact H) | exact H
                have Ny168 := Aside0.mk hy168; clear hy168; replace H := Option.bind_eq_some_iff.mp H
                obtain ⟨⟨t171, t172, t173, t174, t175, t176⟩, A710, H⟩ := H
                replace H : (if t157 = 0 then (if t132 = true then (if t176 = 0 then (if t175 = (wrap64 ((l1.length : Int) + 1)) then (some (t171 == t153 && (t172 == t154 && (t173 == t155 && (t174 == t156))))) else (some false)) else (some false)) else (some false)) else (if t132 = true then (if t176 = t157 then (some (t175 == (l1.length : Int))) else (some false)) else (some false))) = some r := H; have A71 := Aside0.mk A710; clear A710; have hnb76 := NB131_140.out; have hnc76 := NB140_131.out; have hnb77 := NB131_148.out; have hnc77 := NB148_131.out; have hcz78_0 : wr.cell? ⟨gb131, 0, none⟩ = some (.slice A0_0 l0_0.length c0_0) := (blk_cell BK131.out 0).trans rfl; have hcz78_1 : wr.cell? ⟨gb131, 1, none⟩ = some (.int .i64 a0_1) := (blk_cell BK131.out 1).trans rfl; have hfz78_0 := blk_frozen BK131.out 0; have hfz78_1 := blk_frozen BK131.out 1; have hnb79 := NB140_148.out; have hnc79 := NB148_140.out; have hcz80_0 : wr.cell? ⟨gb140, 0, none⟩ = some (.int .i64 t134) := (blk_cell BK140.out 0).trans rfl; have hcz80_1 : wr.cell? ⟨gb140, 1, none⟩ = some (.int .i64 t135) := (blk_cell BK140.out 1).trans rfl; have hcz80_2 : wr.cell? ⟨gb140, 2, none⟩ = some (.int .i64 t136) := (blk_cell BK140.out 2).trans rfl; have hcz80_3 : wr.cell? ⟨gb140, 3, none⟩ = some (.bool t137) := (blk_cell BK140.out 3).trans rfl; have hfz80_0 := blk_frozen BK140.out 0; have hfz80_1 := blk_frozen BK140.out 1; have hfz80_2 := blk_frozen BK140.out 2; have hfz80_3 := blk_frozen BK140.out 3
                try go_wp2_with (first | ((with_reducible refine gate_callee (f := 12) rfl ?_); refine goesL_ (some 133) rfl rfl Try.func12 (by kernel_rfl) rfl #[.agg #[.slice A0_0 l0_0.length c0_0, .int .i64 a0_1], .agg #[.int .i64 t134, .int .i64 t135, .int .i64 t136, .bool t137], .int .i64 a2] rfl (by (try simp only [List.map_toArray, List.map_cons, List.map_nil]); first | done | rfl | (simp only [List.length_drop, List.length_take]; rfl)) ?_; (with_reducible refine (cadence_Advance.calls k3 _ _ l0_0 a0_1 t134 t135 t136 t137 a2 t153 t154 t155 t156 t157 _ ?side1 ?side2 A68.out).mono ?_); (case side1 => repeat (first | exact (Kd.C_below HR0_0.out HB.out) | (with_reducible refine Kd.C_alloc ?_ _) | (with_reducible refine Kd.C_drewN ?_ _) | (with_reducible refine Kd.C_drew ?_))); (case side2 => exact HC0_0.out); rintro e w81 ⟨rfl, hb⟩; refine ⟨_, rfl, ?_⟩; have n0_ := Aside0.mk (blk_below (g := gb131) (o := .cells #[.slice A0_0 l0_0.length c0_0, .int .i64 a0_1] 24 (0, 0)) (by (with_reducible repeat (first | refine blk_drewN ?_ _ | refine blk_drew ?_ | refine blk_alloc ?_ _)); exact BK131.out) hb); have n1_ := Aside0.mk (blk_below (g := gb140) (o := .cells #[.int .i64 t134, .int .i64 t135, .int .i64 t136, .bool t137] 30 (0, 0)) (by (with_reducible repeat (first | refine blk_drewN ?_ _ | refine blk_drew ?_ | refine blk_alloc ?_ _)); exact BK140.out) hb); have n2_ := Aside0.mk (blk_below (g := gb148) (o := .cells #[.int .i64 t142, .int .i64 t143, .int .i64 t144, .bool t145] 30 (0, 0)) (by (with_reducible repeat (first | refine blk_drewN ?_ _ | refine blk_drew ?_ | refine blk_alloc ?_ _)); exact BK148.out) hb); have n3_ := Aside0.mk (below_step (by repeat (first | (with_reducible first | exact HB.out | apply below_alloc | apply pw_below_drewN | apply below_drew1 | refine below_set ?_ GE131.out | refine below_set ?_ GE140.out | refine below_set ?_ GE148.out) | exact HB.out)) hb); clear BK131; clear BK140; clear BK148; clear HB; have BK131 := n0_; have BK140 := n1_; have BK148 := n2_; have HB := n3_; clear n0_ n1_ n2_ n3_; (try clear hb); (try clear hb2); (try clear hk); (try clear hi)) | ((with_reducible refine gate_dst (N := 20) rfl ?_); (try (refine gate_guard (by rfl) ?_; dsimp only)); refine box_event ?hg (N := 20) ?hd (cs := #[.int .i64 0, .int .i64 0, .int .i64 0, .bool false]) (t := 30) ?hr ?_; (case hd => rfl); (case hg => rfl); (case hr => first | (go_simp; done) | (go_simp; rfl)); intro gb158 hg w82 hbox hb; have n0_ := Aside0.mk (blk_below (g := gb131) (o := .cells #[.slice A0_0 l0_0.length c0_0, .int .i64 a0_1] 24 (0, 0)) (by (with_reducible repeat (first | refine blk_drewN ?_ _ | refine blk_drew ?_ | refine blk_alloc ?_ _)); exact BK131.out) hb); have n1_ := Aside0.mk (blk_below (g := gb140) (o := .cells #[.int .i64 t134, .int .i64 t135, .int .i64 t136, .bool t137] 30 (0, 0)) (by (with_reducible repeat (first | refine blk_drewN ?_ _ | refine blk_drew ?_ | refine blk_alloc ?_ _)); exact BK140.out) hb); have n2_ := Aside0.mk (blk_below (g := gb148) (o := .cells #[.int .i64 t142, .int .i64 t143, .int .i64 t144, .bool t145] 30 (0, 0)) (by (with_reducible repeat (first | refine blk_drewN ?_ _ | refine blk_drew ?_ | refine blk_alloc ?_ _)); exact BK148.out) hb); have n3_ := Aside0.mk (below_step (by repeat (first | (with_reducible first | exact HB.out | apply below_alloc | apply pw_below_drewN | apply below_drew1 | refine below_set ?_ GE131.out | refine below_set ?_ GE140.out | refine below_set ?_ GE148.out) | exact HB.out)) hb); have n4_ := Aside0.mk (hbox); have n5_ := Aside0.mk ((by rw [hg]; exact (below_size (by repeat (first | (with_reducible first | exact HB.out | apply below_alloc | apply pw_below_drewN | apply below_drew1 | refine below_set ?_ GE131.out | refine below_set ?_ GE140.out | refine below_set ?_ GE148.out) | exact HB.out))) : w.heap.size ≤ gb158)); have n6_ := Aside0.mk ((by rw [hg]; exact (below_size (by repeat (first | (with_reducible first | exact HB.out | apply below_alloc | apply pw_below_drewN | apply below_drew1 | refine below_set ?_ GE131.out | refine below_set ?_ GE140.out | refine below_set ?_ GE148.out) | exact HB.out))) : w.heap.size ≤ gb158)); have n7_ := Aside0.mk ((by rw [hg]; exact Nat.ne_of_lt (blk_lt (g := gb131) (o := .cells #[.slice A0_0 l0_0.length c0_0, .int .i64 a0_1] 24 (0, 0)) (by (with_reducible repeat (first | refine blk_drewN ?_ _ | refine blk_drew ?_ | refine blk_alloc ?_ _)); exact BK131.out)) : gb131 ≠ gb158)); have n8_ := Aside0.mk ((by rw [hg]; exact Nat.ne_of_gt (blk_lt (g := gb131) (o := .cells #[.slice A0_0 l0_0.length c0_0, .int .i64 a0_1] 24 (0, 0)) (by (with_reducible repeat (first | refine blk_drewN ?_ _ | refine blk_drew ?_ | refine blk_alloc ?_ _)); exact BK131.out)) : gb158 ≠ gb131)); have n9_ := Aside0.mk ((by rw [hg]; exact Nat.ne_of_lt (blk_lt (g := gb140) (o := .cells #[.int .i64 t134, .int .i64 t135, .int .i64 t136, .bool t137] 30 (0, 0)) (by (with_reducible repeat (first | refine blk_drewN ?_ _ | refine blk_drew ?_ | refine blk_alloc ?_ _)); exact BK140.out)) : gb140 ≠ gb158)); have n10_ := Aside0.mk ((by rw [hg]; exact Nat.ne_of_gt (blk_lt (g := gb140) (o := .cells #[.int .i64 t134, .int .i64 t135, .int .i64 t136, .bool t137] 30 (0, 0)) (by (with_reducible repeat (first | refine blk_drewN ?_ _ | refine blk_drew ?_ | refine blk_alloc ?_ _)); exact BK140.out)) : gb158 ≠ gb140)); have n11_ := Aside0.mk ((by rw [hg]; exact Nat.ne_of_lt (blk_lt (g := gb148) (o := .cells #[.int .i64 t142, .int .i64 t143, .int .i64 t144, .bool t145] 30 (0, 0)) (by (with_reducible repeat (first | refine blk_drewN ?_ _ | refine blk_drew ?_ | refine blk_alloc ?_ _)); exact BK148.out)) : gb148 ≠ gb158)); have n12_ := Aside0.mk ((by rw [hg]; exact Nat.ne_of_gt (blk_lt (g := gb148) (o := .cells #[.int .i64 t142, .int .i64 t143, .int .i64 t144, .bool t145] 30 (0, 0)) (by (with_reducible repeat (first | refine blk_drewN ?_ _ | refine blk_drew ?_ | refine blk_alloc ?_ _)); exact BK148.out)) : gb158 ≠ gb148)); clear BK131; clear BK140; clear BK148; clear HB; have BK131 := n0_; have BK140 := n1_; have BK148 := n2_; have HB := n3_; have BK158 := n4_; have GW158 := n5_; have GE158 := n6_; have NB131_158 := n7_; have NB158_131 := n8_; have NB140_158 := n9_; have NB158_140 := n10_; have NB148_158 := n11_; have NB158_148 := n12_; clear n0_ n1_ n2_ n3_ n4_ n5_ n6_ n7_ n8_ n9_ n10_ n11_ n12_; clear hb hbox hg; have hnb83 := NB158_131.out; have hnc83 := NB131_158.out; have hnb84 := NB158_140.out; have hnc84 := NB140_158.out; have hnb85 := NB158_148.out; have hnc85 := NB148_158.out; have hcz86_0 : w82.cell? ⟨gb158, 0, none⟩ = some (.int .i64 0) := (blk_cell BK158.out 0).trans rfl; have hcz86_1 : w82.cell? ⟨gb158, 1, none⟩ = some (.int .i64 0) := (blk_cell BK158.out 1).trans rfl; have hcz86_2 : w82.cell? ⟨gb158, 2, none⟩ = some (.int .i64 0) := (blk_cell BK158.out 2).trans rfl; have hcz86_3 : w82.cell? ⟨gb158, 3, none⟩ = some (.bool false) := (blk_cell BK158.out 3).trans rfl; have hfz86_0 := blk_frozen BK158.out 0; have hfz86_1 := blk_frozen BK158.out 1; have hfz86_2 := blk_frozen BK158.out 2; have hfz86_3 := blk_frozen BK158.out 3))
                have n0_ : Aside0 (((((w82.setCell ⟨gb158, 0, none⟩ (.int .i64 t153)).setCell ⟨gb158, 1, none⟩ (.int .i64 t154)).setCell ⟨gb158, 2, none⟩ (.int .i64 t155)).setCell ⟨gb158, 3, none⟩ (.bool t156)).heap[gb131]? = some (.cells #[.slice A0_0 l0_0.length c0_0, .int .i64 a0_1] 24 (0, 0))) := ⟨by (with_reducible repeat (first | refine blk_drewN ?_ _ | refine blk_drew ?_ | refine blk_alloc ?_ _)); refine blk_far ?_ NB131_158.out _; (with_reducible repeat (first | refine blk_drewN ?_ _ | refine blk_drew ?_ | refine blk_alloc ?_ _)); refine blk_far ?_ NB131_158.out _; (with_reducible repeat (first | refine blk_drewN ?_ _ | refine blk_drew ?_ | refine blk_alloc ?_ _)); refine blk_far ?_ NB131_158.out _; (with_reducible repeat (first | refine blk_drewN ?_ _ | refine blk_drew ?_ | refine blk_alloc ?_ _)); refine blk_far ?_ NB131_158.out _; (with_reducible repeat (first | refine blk_drewN ?_ _ | refine blk_drew ?_ | refine blk_alloc ?_ _)); exact BK131.out⟩; have n1_ : Aside0 (((((w82.setCell ⟨gb158, 0, none⟩ (.int .i64 t153)).setCell ⟨gb158, 1, none⟩ (.int .i64 t154)).setCell ⟨gb158, 2, none⟩ (.int .i64 t155)).setCell ⟨gb158, 3, none⟩ (.bool t156)).heap[gb140]? = some (.cells #[.int .i64 t134, .int .i64 t135, .int .i64 t136, .bool t137] 30 (0, 0))) := ⟨by (with_reducible repeat (first | refine blk_drewN ?_ _ | refine blk_drew ?_ | refine blk_alloc ?_ _)); refine blk_far ?_ NB140_158.out _; (with_reducible repeat (first | refine blk_drewN ?_ _ | refine blk_drew ?_ | refine blk_alloc ?_ _)); refine blk_far ?_ NB140_158.out _; (with_reducible repeat (first | refine blk_drewN ?_ _ | refine blk_drew ?_ | refine blk_alloc ?_ _)); refine blk_far ?_ NB140_158.out _; (with_reducible repeat (first | refine blk_drewN ?_ _ | refine blk_drew ?_ | refine blk_alloc ?_ _)); refine blk_far ?_ NB140_158.out _; (with_reducible repeat (first | refine blk_drewN ?_ _ | refine blk_drew ?_ | refine blk_alloc ?_ _)); exact BK140.out⟩
                have n2_ : Aside0 (((((w82.setCell ⟨gb158, 0, none⟩ (.int .i64 t153)).setCell ⟨gb158, 1, none⟩ (.int .i64 t154)).setCell ⟨gb158, 2, none⟩ (.int .i64 t155)).setCell ⟨gb158, 3, none⟩ (.bool t156)).heap[gb148]? = some (.cells #[.int .i64 t142, .int .i64 t143, .int .i64 t144, .bool t145] 30 (0, 0))) := ⟨by (with_reducible repeat (first | refine blk_drewN ?_ _ | refine blk_drew ?_ | refine blk_alloc ?_ _)); refine blk_far ?_ NB148_158.out _; (with_reducible repeat (first | refine blk_drewN ?_ _ | refine blk_drew ?_ | refine blk_alloc ?_ _)); refine blk_far ?_ NB148_158.out _; (with_reducible repeat (first | refine blk_drewN ?_ _ | refine blk_drew ?_ | refine blk_alloc ?_ _)); refine blk_far ?_ NB148_158.out _; (with_reducible repeat (first | refine blk_drewN ?_ _ | refine blk_drew ?_ | refine blk_alloc ?_ _)); refine blk_far ?_ NB148_158.out _; (with_reducible repeat (first | refine blk_drewN ?_ _ | refine blk_drew ?_ | refine blk_alloc ?_ _)); exact BK148.out⟩; have n3_ : Aside0 (((((w82.setCell ⟨gb158, 0, none⟩ (.int .i64 t153)).setCell ⟨gb158, 1, none⟩ (.int .i64 t154)).setCell ⟨gb158, 2, none⟩ (.int .i64 t155)).setCell ⟨gb158, 3, none⟩ (.bool t156)).heap[gb158]? = some (.cells #[.int .i64 t153, .int .i64 t154, .int .i64 t155, .bool t156] 30 (0, 0))) := ⟨by (with_reducible repeat (first | refine blk_drewN ?_ _ | refine blk_drew ?_ | refine blk_alloc ?_ _)); refine blk_put (cs := #[.int .i64 t153, .int .i64 t154, .int .i64 t155, .bool false]) ?_ 3 _ rfl; (with_reducible repeat (first | refine blk_drewN ?_ _ | refine blk_drew ?_ | refine blk_alloc ?_ _)); refine blk_put (cs := #[.int .i64 t153, .int .i64 t154, .int .i64 0, .bool false]) ?_ 2 _ rfl; (with_reducible repeat (first | refine blk_drewN ?_ _ | refine blk_drew ?_ | refine blk_alloc ?_ _)); refine blk_put (cs := #[.int .i64 t153, .int .i64 0, .int .i64 0, .bool false]) ?_ 1 _ rfl; (with_reducible repeat (first | refine blk_drewN ?_ _ | refine blk_drew ?_ | refine blk_alloc ?_ _)); refine blk_put (cs := #[.int .i64 0, .int .i64 0, .int .i64 0, .bool false]) ?_ 0 _ rfl; (with_reducible repeat (first | refine blk_drewN ?_ _ | refine blk_drew ?_ | refine blk_alloc ?_ _)); exact BK158.out⟩
                have n4_ : Aside0 (Below w.heap.size w ((((w82.setCell ⟨gb158, 0, none⟩ (.int .i64 t153)).setCell ⟨gb158, 1, none⟩ (.int .i64 t154)).setCell ⟨gb158, 2, none⟩ (.int .i64 t155)).setCell ⟨gb158, 3, none⟩ (.bool t156))) := ⟨by repeat (first | (with_reducible first | exact HB.out | apply below_alloc | apply pw_below_drewN | apply below_drew1 | refine below_set ?_ GE131.out | refine below_set ?_ GE140.out | refine below_set ?_ GE148.out | refine below_set ?_ GE158.out) | exact HB.out)⟩
                (try clear BK131)
                (try clear BK140)
                (try clear BK148)
                (try clear BK158)
                (try clear HB)
                generalize ((((w82.setCell ⟨gb158, 0, none⟩ (.int .i64 t153)).setCell ⟨gb158, 1, none⟩ (.int .i64 t154)).setCell ⟨gb158, 2, none⟩ (.int .i64 t155)).setCell ⟨gb158, 3, none⟩ (.bool t156)) = w87 at n0_ n1_ n2_ n3_ n4_ ⊢
                have BK131 := n0_; have BK140 := n1_; have BK148 := n2_; have BK158 := n3_; have HB := n4_; clear n0_ n1_ n2_ n3_ n4_; have n0_ := Aside0.mk (blk_drew BK131.out); have n1_ := Aside0.mk (blk_drew BK140.out); have n2_ := Aside0.mk (blk_drew BK148.out); have n3_ := Aside0.mk (blk_drew BK158.out); have n4_ := Aside0.mk (below_drew1 HB.out); clear BK131; clear BK140; clear BK148; clear BK158; clear HB; have BK131 := n0_; have BK140 := n1_; have BK148 := n2_; have BK158 := n3_; have HB := n4_; clear n0_ n1_ n2_ n3_ n4_
                refine start_ (n := 16) (S := fun w' => w'.cell? ⟨gb131, 0, none⟩ = some (.slice A0_0 l0_0.length c0_0) ∧ w'.cell? ⟨gb131, 1, none⟩ = some (.int .i64 a0_1)) (ds := []) #[false, false, false, false, false, false, false, false, false, false, false, false, false, false, false, false] (by kernel_rfl) rfl rfl ⟨(blk_cell BK131.out 0).trans rfl, (blk_cell BK131.out 1).trans rfl⟩ (fun hHeld => ?_); refine with_tabW observatorylaw24_CadenceReplays.tab19 observatorylaw24_CadenceReplays.bits19 (fun HT_ HW_ => ?_)
                generalize w87.drew = w88 at BK131 BK140 BK148 BK158 HB hHeld ⊢
                refine pure_ (i := 2) (N := some 139) (v := ?_) (a' := ?_) #[false, false, true, false, false, false, false, false, false, false, false, false, false, false, false, false] rfl rfl (any_of HT_.out (by kernel_rfl)) (fun _ _ _ h => h) (Or.inl ⟨by rfl, ?_⟩) ?_ ?_
                rotate_left
                ·intro w'
                 go_simp
                 with_reducible rfl
                rotate_left
                ·simp only [Act.put, List.setIfInBounds_toArray, List.set_cons_zero, List.set_cons_succ, i64_w, i32_w]
                 rfl
                refine pure_ (i := 4) (N := some 141) (v := ?_) (a' := ?_) #[false, false, true, false, true, false, false, false, false, false, false, false, false, false, false, false] rfl rfl (any_of HT_.out (by kernel_rfl)) (fun _ _ _ h => h) (Or.inl ⟨by rfl, ?_⟩) ?_ ?_
                rotate_left
                ·intro w'
                 go_simp
                 with_reducible rfl
                rotate_left
                ·simp only [Act.put, List.setIfInBounds_toArray, List.set_cons_zero, List.set_cons_succ, i64_w, i32_w]
                 rfl
                refine take_ (i := 0) (N := some 137) (v := ?_) (a' := ?_) #[true, false, true, false, true, false, false, false, false, false, false, false, false, false, false, false] rfl rfl (take_ofW HT_.out HW_.out (by kernel_rfl)) (fun _ _ _ h => h) (Or.inl ⟨by rfl, ?_⟩) hHeld ?_ ?_
                rotate_left
                ·rintro w' ⟨s0, s1⟩
                 go_simp
                 with_reducible rfl
                rotate_left
                ·simp only [Act.put, List.setIfInBounds_toArray, List.set_cons_zero, List.set_cons_succ, i64_w, i32_w]
                 rfl
                refine join_ (σ := Value × Value × Value × Value × Nat) 3 #[true, true, true, true, true, true, true, true, true, true, true, true, true, false, false, false] (fun s_ => [(138, s_.1), (140, s_.2.1), (142, s_.2.2.1), (143, s_.2.2.2.1), (144, .tuple #[.agg #[.int .i64 t171, .int .i64 t172, .int .i64 t173, .bool t174], .int .i64 t175, .int .i64 t176]), (22, .pointer (some ⟨s_.2.2.2.2, 0, none⟩)), (136, .tuple #[.agg #[.int .i64 t171, .int .i64 t172, .int .i64 t173, .bool t174], .int .i64 t175, .int .i64 t176]), (145, .agg #[.int .i64 t171, .int .i64 t172, .int .i64 t173, .bool t174]), (146, .int .i64 t175), (147, .int .i64 t176)]) (fun s_ w' => (w'.cell? ⟨gb131, 0, none⟩ = some (.slice A0_0 l0_0.length c0_0) ∧ w'.cell? ⟨gb131, 1, none⟩ = some (.int .i64 a0_1)) ∧ (Kd.R (Kd.int .i64) 3 w' w.heap.size (fun k_ => some k_ ≠ (s_.2.2.2.1 : Value).ownBlock) s_.2.2.1 y165) ∧ (Kd.R (Kd.int .i64) 3 w' w.heap.size (fun k_ => some k_ ≠ (s_.2.2.1 : Value).ownBlock) s_.2.2.2.1 y168) ∧ (w'.heap[gb131]? = some (.cells #[.slice A0_0 l0_0.length c0_0, .int .i64 a0_1] 24 (0, 0))) ∧ (w'.heap[gb140]? = some (.cells #[.int .i64 t134, .int .i64 t135, .int .i64 t136, .bool t137] 30 (0, 0))) ∧ (w'.heap[gb148]? = some (.cells #[.int .i64 t142, .int .i64 t143, .int .i64 t144, .bool t145] 30 (0, 0))) ∧ (w'.heap[gb158]? = some (.cells #[.int .i64 t153, .int .i64 t154, .int .i64 t155, .bool t156] 30 (0, 0))) ∧ (w'.heap[s_.2.2.2.2]? = some (.cells #[.int .i64 0, .int .i64 0, .int .i64 0, .bool false] 30 (0, 0))) ∧ (w.heap.size ≤ s_.2.2.2.2) ∧ (w.heap.size ≤ s_.2.2.2.2) ∧ (gb131 ≠ s_.2.2.2.2) ∧ (s_.2.2.2.2 ≠ gb131) ∧ (gb140 ≠ s_.2.2.2.2) ∧ (s_.2.2.2.2 ≠ gb140) ∧ (gb148 ≠ s_.2.2.2.2) ∧ (s_.2.2.2.2 ≠ gb148) ∧ (gb158 ≠ s_.2.2.2.2) ∧ (s_.2.2.2.2 ≠ gb158) ∧ (Below w.heap.size w w')) ?_ ?_
                rotate_left
                ·intro hJ1_3_5_6_7_12
                 refine join_ (σ := Value × Value × Value × Value) 4 #[true, true, true, true, true, true, true, true, true, true, true, true, false, false, false, false] (fun s_ => [(138, s_.1), (140, s_.2.1), (142, s_.2.2.1), (143, s_.2.2.2), (144, .tuple #[.agg #[.int .i64 t171, .int .i64 t172, .int .i64 t173, .bool t174], .int .i64 t175, .int .i64 t176]), (136, .tuple #[.agg #[.int .i64 t171, .int .i64 t172, .int .i64 t173, .bool t174], .int .i64 t175, .int .i64 t176]), (145, .agg #[.int .i64 t171, .int .i64 t172, .int .i64 t173, .bool t174]), (146, .int .i64 t175), (147, .int .i64 t176)]) (fun s_ w' => (w'.cell? ⟨gb131, 0, none⟩ = some (.slice A0_0 l0_0.length c0_0) ∧ w'.cell? ⟨gb131, 1, none⟩ = some (.int .i64 a0_1)) ∧ (Kd.R (Kd.int .i64) 3 w' w.heap.size (fun k_ => some k_ ≠ (s_.2.2.2 : Value).ownBlock) s_.2.2.1 y165) ∧ (Kd.R (Kd.int .i64) 3 w' w.heap.size (fun k_ => some k_ ≠ (s_.2.2.1 : Value).ownBlock) s_.2.2.2 y168) ∧ (w'.heap[gb131]? = some (.cells #[.slice A0_0 l0_0.length c0_0, .int .i64 a0_1] 24 (0, 0))) ∧ (w'.heap[gb140]? = some (.cells #[.int .i64 t134, .int .i64 t135, .int .i64 t136, .bool t137] 30 (0, 0))) ∧ (w'.heap[gb148]? = some (.cells #[.int .i64 t142, .int .i64 t143, .int .i64 t144, .bool t145] 30 (0, 0))) ∧ (w'.heap[gb158]? = some (.cells #[.int .i64 t153, .int .i64 t154, .int .i64 t155, .bool t156] 30 (0, 0))) ∧ (Below w.heap.size w w')) ?_ ?_
                 rotate_left
                 ·intro hJ1_3_5_6_7
                  refine join_ (σ := Value × Value × Value × Value × Nat) 8 #[true, true, true, true, true, true, true, false, false, false, false, false, true, false, false, false] (fun s_ => [(138, s_.1), (140, s_.2.1), (142, s_.2.2.1), (143, s_.2.2.2.1), (22, .pointer (some ⟨s_.2.2.2.2, 0, none⟩))]) (fun s_ w' => (w'.cell? ⟨gb131, 0, none⟩ = some (.slice A0_0 l0_0.length c0_0) ∧ w'.cell? ⟨gb131, 1, none⟩ = some (.int .i64 a0_1)) ∧ (Kd.R (Kd.int .i64) 3 w' w.heap.size (fun k_ => some k_ ≠ (s_.2.2.2.1 : Value).ownBlock) s_.2.2.1 y165) ∧ (Kd.R (Kd.int .i64) 3 w' w.heap.size (fun k_ => some k_ ≠ (s_.2.2.1 : Value).ownBlock) s_.2.2.2.1 y168) ∧ (w'.heap[gb131]? = some (.cells #[.slice A0_0 l0_0.length c0_0, .int .i64 a0_1] 24 (0, 0))) ∧ (w'.heap[gb140]? = some (.cells #[.int .i64 t134, .int .i64 t135, .int .i64 t136, .bool t137] 30 (0, 0))) ∧ (w'.heap[gb148]? = some (.cells #[.int .i64 t142, .int .i64 t143, .int .i64 t144, .bool t145] 30 (0, 0))) ∧ (w'.heap[gb158]? = some (.cells #[.int .i64 t153, .int .i64 t154, .int .i64 t155, .bool t156] 30 (0, 0))) ∧ (w'.heap[s_.2.2.2.2]? = some (.cells #[.int .i64 0, .int .i64 0, .int .i64 0, .bool false] 30 (0, 0))) ∧ (w.heap.size ≤ s_.2.2.2.2) ∧ (w.heap.size ≤ s_.2.2.2.2) ∧ (gb131 ≠ s_.2.2.2.2) ∧ (s_.2.2.2.2 ≠ gb131) ∧ (gb140 ≠ s_.2.2.2.2) ∧ (s_.2.2.2.2 ≠ gb140) ∧ (gb148 ≠ s_.2.2.2.2) ∧ (s_.2.2.2.2 ≠ gb148) ∧ (gb158 ≠ s_.2.2.2.2) ∧ (s_.2.2.2.2 ≠ gb158) ∧ (Below w.heap.size w w')) ?_ ?_
                  rotate_left
                  ·intro hJ1_3_5_6_12
                   refine join_ (σ := Value × Value × Value × Value) 9 #[true, true, true, true, true, true, true, false, false, false, false, false, false, false, false, false] (fun s_ => [(138, s_.1), (140, s_.2.1), (142, s_.2.2.1), (143, s_.2.2.2)]) (fun s_ w' => (w'.cell? ⟨gb131, 0, none⟩ = some (.slice A0_0 l0_0.length c0_0) ∧ w'.cell? ⟨gb131, 1, none⟩ = some (.int .i64 a0_1)) ∧ (Kd.R (Kd.int .i64) 3 w' w.heap.size (fun k_ => some k_ ≠ (s_.2.2.2 : Value).ownBlock) s_.2.2.1 y165) ∧ (Kd.R (Kd.int .i64) 3 w' w.heap.size (fun k_ => some k_ ≠ (s_.2.2.1 : Value).ownBlock) s_.2.2.2 y168) ∧ (w'.heap[gb131]? = some (.cells #[.slice A0_0 l0_0.length c0_0, .int .i64 a0_1] 24 (0, 0))) ∧ (w'.heap[gb140]? = some (.cells #[.int .i64 t134, .int .i64 t135, .int .i64 t136, .bool t137] 30 (0, 0))) ∧ (w'.heap[gb148]? = some (.cells #[.int .i64 t142, .int .i64 t143, .int .i64 t144, .bool t145] 30 (0, 0))) ∧ (w'.heap[gb158]? = some (.cells #[.int .i64 t153, .int .i64 t154, .int .i64 t155, .bool t156] 30 (0, 0))) ∧ (Below w.heap.size w w')) ?_ ?_
                   rotate_left
                   ·intro hJ1_3_5_6
                    refine join_ (σ := Value × Value × Value × Nat) 9 #[true, true, true, true, true, true, false, false, false, false, false, false, true, false, false, false] (fun s_ => [(138, s_.1), (140, s_.2.1), (142, s_.2.2.1), (22, .pointer (some ⟨s_.2.2.2, 0, none⟩))]) (fun s_ w' => (w'.cell? ⟨gb131, 0, none⟩ = some (.slice A0_0 l0_0.length c0_0) ∧ w'.cell? ⟨gb131, 1, none⟩ = some (.int .i64 a0_1)) ∧ (Kd.R (Kd.int .i64) 3 w' w.heap.size (fun k_ => some k_ ≠ (s_.2.2.1 : Value).ownBlock) s_.2.1 y162) ∧ (Kd.R (Kd.int .i64) 3 w' w.heap.size (fun k_ => some k_ ≠ (s_.2.1 : Value).ownBlock) s_.2.2.1 y165) ∧ (w'.heap[gb131]? = some (.cells #[.slice A0_0 l0_0.length c0_0, .int .i64 a0_1] 24 (0, 0))) ∧ (w'.heap[gb140]? = some (.cells #[.int .i64 t134, .int .i64 t135, .int .i64 t136, .bool t137] 30 (0, 0))) ∧ (w'.heap[gb148]? = some (.cells #[.int .i64 t142, .int .i64 t143, .int .i64 t144, .bool t145] 30 (0, 0))) ∧ (w'.heap[gb158]? = some (.cells #[.int .i64 t153, .int .i64 t154, .int .i64 t155, .bool t156] 30 (0, 0))) ∧ (w'.heap[s_.2.2.2]? = some (.cells #[.int .i64 0, .int .i64 0, .int .i64 0, .bool false] 30 (0, 0))) ∧ (w.heap.size ≤ s_.2.2.2) ∧ (w.heap.size ≤ s_.2.2.2) ∧ (gb131 ≠ s_.2.2.2) ∧ (s_.2.2.2 ≠ gb131) ∧ (gb140 ≠ s_.2.2.2) ∧ (s_.2.2.2 ≠ gb140) ∧ (gb148 ≠ s_.2.2.2) ∧ (s_.2.2.2 ≠ gb148) ∧ (gb158 ≠ s_.2.2.2) ∧ (s_.2.2.2 ≠ gb158) ∧ (Below w.heap.size w w')) ?_ ?_
                    rotate_left
                    ·intro hJ1_3_5_12
                     refine join_ (σ := Value × Value × Value) 10 #[true, true, true, true, true, true, false, false, false, false, false, false, false, false, false, false] (fun s_ => [(138, s_.1), (140, s_.2.1), (142, s_.2.2)]) (fun s_ w' => (w'.cell? ⟨gb131, 0, none⟩ = some (.slice A0_0 l0_0.length c0_0) ∧ w'.cell? ⟨gb131, 1, none⟩ = some (.int .i64 a0_1)) ∧ (Kd.R (Kd.int .i64) 3 w' w.heap.size (fun k_ => some k_ ≠ (s_.2.2 : Value).ownBlock) s_.2.1 y162) ∧ (Kd.R (Kd.int .i64) 3 w' w.heap.size (fun k_ => some k_ ≠ (s_.2.1 : Value).ownBlock) s_.2.2 y165) ∧ (w'.heap[gb131]? = some (.cells #[.slice A0_0 l0_0.length c0_0, .int .i64 a0_1] 24 (0, 0))) ∧ (w'.heap[gb140]? = some (.cells #[.int .i64 t134, .int .i64 t135, .int .i64 t136, .bool t137] 30 (0, 0))) ∧ (w'.heap[gb148]? = some (.cells #[.int .i64 t142, .int .i64 t143, .int .i64 t144, .bool t145] 30 (0, 0))) ∧ (w'.heap[gb158]? = some (.cells #[.int .i64 t153, .int .i64 t154, .int .i64 t155, .bool t156] 30 (0, 0))) ∧ (Below w.heap.size w w')) ?_ ?_
                     rotate_left
                     ·intro hJ1_3_5
                      refine join_ (σ := Value × Value × Nat) 10 #[true, true, true, true, true, false, false, false, false, false, false, false, true, false, false, false] (fun s_ => [(138, s_.1), (140, s_.2.1), (22, .pointer (some ⟨s_.2.2, 0, none⟩))]) (fun s_ w' => (w'.cell? ⟨gb131, 0, none⟩ = some (.slice A0_0 l0_0.length c0_0) ∧ w'.cell? ⟨gb131, 1, none⟩ = some (.int .i64 a0_1)) ∧ (Kd.R (Kd.int .i64) 3 w' w.heap.size (fun _ => True) s_.2.1 y162) ∧ (w'.heap[gb131]? = some (.cells #[.slice A0_0 l0_0.length c0_0, .int .i64 a0_1] 24 (0, 0))) ∧ (w'.heap[gb140]? = some (.cells #[.int .i64 t134, .int .i64 t135, .int .i64 t136, .bool t137] 30 (0, 0))) ∧ (w'.heap[gb148]? = some (.cells #[.int .i64 t142, .int .i64 t143, .int .i64 t144, .bool t145] 30 (0, 0))) ∧ (w'.heap[gb158]? = some (.cells #[.int .i64 t153, .int .i64 t154, .int .i64 t155, .bool t156] 30 (0, 0))) ∧ (w'.heap[s_.2.2]? = some (.cells #[.int .i64 0, .int .i64 0, .int .i64 0, .bool false] 30 (0, 0))) ∧ (w.heap.size ≤ s_.2.2) ∧ (w.heap.size ≤ s_.2.2) ∧ (gb131 ≠ s_.2.2) ∧ (s_.2.2 ≠ gb131) ∧ (gb140 ≠ s_.2.2) ∧ (s_.2.2 ≠ gb140) ∧ (gb148 ≠ s_.2.2) ∧ (s_.2.2 ≠ gb148) ∧ (gb158 ≠ s_.2.2) ∧ (s_.2.2 ≠ gb158) ∧ (Below w.heap.size w w')) ?_ ?_
                      rotate_left
                      ·intro hJ1_3_12
                       refine join_ (σ := Value × Value × Nat) 10 #[true, true, true, false, true, true, false, false, false, false, false, false, true, false, false, false] (fun s_ => [(138, s_.1), (142, s_.2.1), (22, .pointer (some ⟨s_.2.2, 0, none⟩))]) (fun s_ w' => (w'.cell? ⟨gb131, 0, none⟩ = some (.slice A0_0 l0_0.length c0_0) ∧ w'.cell? ⟨gb131, 1, none⟩ = some (.int .i64 a0_1)) ∧ (Kd.R (Kd.int .i64) 3 w' w.heap.size (fun k_ => some k_ ≠ (s_.2.1 : Value).ownBlock) s_.1 y159) ∧ (Kd.R (Kd.int .i64) 3 w' w.heap.size (fun k_ => some k_ ≠ (s_.1 : Value).ownBlock) s_.2.1 y165) ∧ (w'.heap[gb131]? = some (.cells #[.slice A0_0 l0_0.length c0_0, .int .i64 a0_1] 24 (0, 0))) ∧ (w'.heap[gb140]? = some (.cells #[.int .i64 t134, .int .i64 t135, .int .i64 t136, .bool t137] 30 (0, 0))) ∧ (w'.heap[gb148]? = some (.cells #[.int .i64 t142, .int .i64 t143, .int .i64 t144, .bool t145] 30 (0, 0))) ∧ (w'.heap[gb158]? = some (.cells #[.int .i64 t153, .int .i64 t154, .int .i64 t155, .bool t156] 30 (0, 0))) ∧ (w'.heap[s_.2.2]? = some (.cells #[.int .i64 0, .int .i64 0, .int .i64 0, .bool false] 30 (0, 0))) ∧ (w.heap.size ≤ s_.2.2) ∧ (w.heap.size ≤ s_.2.2) ∧ (gb131 ≠ s_.2.2) ∧ (s_.2.2 ≠ gb131) ∧ (gb140 ≠ s_.2.2) ∧ (s_.2.2 ≠ gb140) ∧ (gb148 ≠ s_.2.2) ∧ (s_.2.2 ≠ gb148) ∧ (gb158 ≠ s_.2.2) ∧ (s_.2.2 ≠ gb158) ∧ (Below w.heap.size w w')) ?_ ?_
                       rotate_left
                       ·intro hJ1_5_12
                        refine join_ (σ := Value × Value) 11 #[true, true, true, true, true, false, false, false, false, false, false, false, false, false, false, false] (fun s_ => [(138, s_.1), (140, s_.2)]) (fun s_ w' => (w'.cell? ⟨gb131, 0, none⟩ = some (.slice A0_0 l0_0.length c0_0) ∧ w'.cell? ⟨gb131, 1, none⟩ = some (.int .i64 a0_1)) ∧ (Kd.R (Kd.int .i64) 3 w' w.heap.size (fun _ => True) s_.2 y162) ∧ (w'.heap[gb131]? = some (.cells #[.slice A0_0 l0_0.length c0_0, .int .i64 a0_1] 24 (0, 0))) ∧ (w'.heap[gb140]? = some (.cells #[.int .i64 t134, .int .i64 t135, .int .i64 t136, .bool t137] 30 (0, 0))) ∧ (w'.heap[gb148]? = some (.cells #[.int .i64 t142, .int .i64 t143, .int .i64 t144, .bool t145] 30 (0, 0))) ∧ (w'.heap[gb158]? = some (.cells #[.int .i64 t153, .int .i64 t154, .int .i64 t155, .bool t156] 30 (0, 0))) ∧ (Below w.heap.size w w')) ?_ ?_
                        rotate_left
                        ·intro hJ1_3
                         refine join_ (σ := Value × Value) 11 #[true, true, true, false, true, true, false, false, false, false, false, false, false, false, false, false] (fun s_ => [(138, s_.1), (142, s_.2)]) (fun s_ w' => (w'.cell? ⟨gb131, 0, none⟩ = some (.slice A0_0 l0_0.length c0_0) ∧ w'.cell? ⟨gb131, 1, none⟩ = some (.int .i64 a0_1)) ∧ (Kd.R (Kd.int .i64) 3 w' w.heap.size (fun k_ => some k_ ≠ (s_.2 : Value).ownBlock) s_.1 y159) ∧ (Kd.R (Kd.int .i64) 3 w' w.heap.size (fun k_ => some k_ ≠ (s_.1 : Value).ownBlock) s_.2 y165) ∧ (w'.heap[gb131]? = some (.cells #[.slice A0_0 l0_0.length c0_0, .int .i64 a0_1] 24 (0, 0))) ∧ (w'.heap[gb140]? = some (.cells #[.int .i64 t134, .int .i64 t135, .int .i64 t136, .bool t137] 30 (0, 0))) ∧ (w'.heap[gb148]? = some (.cells #[.int .i64 t142, .int .i64 t143, .int .i64 t144, .bool t145] 30 (0, 0))) ∧ (w'.heap[gb158]? = some (.cells #[.int .i64 t153, .int .i64 t154, .int .i64 t155, .bool t156] 30 (0, 0))) ∧ (Below w.heap.size w w')) ?_ ?_
                         rotate_left
                         ·intro hJ1_5
                          refine join_ (σ := Value × Nat) 11 #[true, true, true, false, true, false, false, false, false, false, false, false, true, false, false, false] (fun s_ => [(138, s_.1), (22, .pointer (some ⟨s_.2, 0, none⟩))]) (fun s_ w' => (w'.cell? ⟨gb131, 0, none⟩ = some (.slice A0_0 l0_0.length c0_0) ∧ w'.cell? ⟨gb131, 1, none⟩ = some (.int .i64 a0_1)) ∧ (Kd.R (Kd.int .i64) 3 w' w.heap.size (fun _ => True) s_.1 y159) ∧ (w'.heap[gb131]? = some (.cells #[.slice A0_0 l0_0.length c0_0, .int .i64 a0_1] 24 (0, 0))) ∧ (w'.heap[gb140]? = some (.cells #[.int .i64 t134, .int .i64 t135, .int .i64 t136, .bool t137] 30 (0, 0))) ∧ (w'.heap[gb148]? = some (.cells #[.int .i64 t142, .int .i64 t143, .int .i64 t144, .bool t145] 30 (0, 0))) ∧ (w'.heap[gb158]? = some (.cells #[.int .i64 t153, .int .i64 t154, .int .i64 t155, .bool t156] 30 (0, 0))) ∧ (w'.heap[s_.2]? = some (.cells #[.int .i64 0, .int .i64 0, .int .i64 0, .bool false] 30 (0, 0))) ∧ (w.heap.size ≤ s_.2) ∧ (w.heap.size ≤ s_.2) ∧ (gb131 ≠ s_.2) ∧ (s_.2 ≠ gb131) ∧ (gb140 ≠ s_.2) ∧ (s_.2 ≠ gb140) ∧ (gb148 ≠ s_.2) ∧ (s_.2 ≠ gb148) ∧ (gb158 ≠ s_.2) ∧ (s_.2 ≠ gb158) ∧ (Below w.heap.size w w')) ?_ ?_
                          rotate_left
                          ·intro hJ1_12
                           refine join_ (σ := Value × Nat) 11 #[true, false, true, false, true, true, false, false, false, false, false, false, true, false, false, false] (fun s_ => [(142, s_.1), (22, .pointer (some ⟨s_.2, 0, none⟩))]) (fun s_ w' => (w'.cell? ⟨gb131, 0, none⟩ = some (.slice A0_0 l0_0.length c0_0) ∧ w'.cell? ⟨gb131, 1, none⟩ = some (.int .i64 a0_1)) ∧ (Kd.R (Kd.int .i64) 3 w' w.heap.size (fun _ => True) s_.1 y165) ∧ (w'.heap[gb131]? = some (.cells #[.slice A0_0 l0_0.length c0_0, .int .i64 a0_1] 24 (0, 0))) ∧ (w'.heap[gb140]? = some (.cells #[.int .i64 t134, .int .i64 t135, .int .i64 t136, .bool t137] 30 (0, 0))) ∧ (w'.heap[gb148]? = some (.cells #[.int .i64 t142, .int .i64 t143, .int .i64 t144, .bool t145] 30 (0, 0))) ∧ (w'.heap[gb158]? = some (.cells #[.int .i64 t153, .int .i64 t154, .int .i64 t155, .bool t156] 30 (0, 0))) ∧ (w'.heap[s_.2]? = some (.cells #[.int .i64 0, .int .i64 0, .int .i64 0, .bool false] 30 (0, 0))) ∧ (w.heap.size ≤ s_.2) ∧ (w.heap.size ≤ s_.2) ∧ (gb131 ≠ s_.2) ∧ (s_.2 ≠ gb131) ∧ (gb140 ≠ s_.2) ∧ (s_.2 ≠ gb140) ∧ (gb148 ≠ s_.2) ∧ (s_.2 ≠ gb148) ∧ (gb158 ≠ s_.2) ∧ (s_.2 ≠ gb158) ∧ (Below w.heap.size w w')) ?_ ?_
                           rotate_left
                           ·intro hJ5_12
                            refine join_ (σ := Value) 12 #[true, true, true, false, true, false, false, false, false, false, false, false, false, false, false, false] (fun s_ => [(138, s_)]) (fun s_ w' => (w'.cell? ⟨gb131, 0, none⟩ = some (.slice A0_0 l0_0.length c0_0) ∧ w'.cell? ⟨gb131, 1, none⟩ = some (.int .i64 a0_1)) ∧ (Kd.R (Kd.int .i64) 3 w' w.heap.size (fun _ => True) s_ y159) ∧ (w'.heap[gb131]? = some (.cells #[.slice A0_0 l0_0.length c0_0, .int .i64 a0_1] 24 (0, 0))) ∧ (w'.heap[gb140]? = some (.cells #[.int .i64 t134, .int .i64 t135, .int .i64 t136, .bool t137] 30 (0, 0))) ∧ (w'.heap[gb148]? = some (.cells #[.int .i64 t142, .int .i64 t143, .int .i64 t144, .bool t145] 30 (0, 0))) ∧ (w'.heap[gb158]? = some (.cells #[.int .i64 t153, .int .i64 t154, .int .i64 t155, .bool t156] 30 (0, 0))) ∧ (Below w.heap.size w w')) ?_ ?_
                            rotate_left
                            ·intro hJ1
                             refine join_ (σ := Value) 12 #[true, false, true, false, true, true, false, false, false, false, false, false, false, false, false, false] (fun s_ => [(142, s_)]) (fun s_ w' => (w'.cell? ⟨gb131, 0, none⟩ = some (.slice A0_0 l0_0.length c0_0) ∧ w'.cell? ⟨gb131, 1, none⟩ = some (.int .i64 a0_1)) ∧ (Kd.R (Kd.int .i64) 3 w' w.heap.size (fun _ => True) s_ y165) ∧ (w'.heap[gb131]? = some (.cells #[.slice A0_0 l0_0.length c0_0, .int .i64 a0_1] 24 (0, 0))) ∧ (w'.heap[gb140]? = some (.cells #[.int .i64 t134, .int .i64 t135, .int .i64 t136, .bool t137] 30 (0, 0))) ∧ (w'.heap[gb148]? = some (.cells #[.int .i64 t142, .int .i64 t143, .int .i64 t144, .bool t145] 30 (0, 0))) ∧ (w'.heap[gb158]? = some (.cells #[.int .i64 t153, .int .i64 t154, .int .i64 t155, .bool t156] 30 (0, 0))) ∧ (Below w.heap.size w w')) ?_ ?_
                             rotate_left
                             ·intro hJ5
                              refine join_ (σ := Nat) 12 #[true, false, true, false, true, false, false, false, false, false, false, false, true, false, false, false] (fun s_ => [(22, .pointer (some ⟨s_, 0, none⟩))]) (fun s_ w' => (w'.cell? ⟨gb131, 0, none⟩ = some (.slice A0_0 l0_0.length c0_0) ∧ w'.cell? ⟨gb131, 1, none⟩ = some (.int .i64 a0_1)) ∧ (w'.heap[gb131]? = some (.cells #[.slice A0_0 l0_0.length c0_0, .int .i64 a0_1] 24 (0, 0))) ∧ (w'.heap[gb140]? = some (.cells #[.int .i64 t134, .int .i64 t135, .int .i64 t136, .bool t137] 30 (0, 0))) ∧ (w'.heap[gb148]? = some (.cells #[.int .i64 t142, .int .i64 t143, .int .i64 t144, .bool t145] 30 (0, 0))) ∧ (w'.heap[gb158]? = some (.cells #[.int .i64 t153, .int .i64 t154, .int .i64 t155, .bool t156] 30 (0, 0))) ∧ (w'.heap[s_]? = some (.cells #[.int .i64 0, .int .i64 0, .int .i64 0, .bool false] 30 (0, 0))) ∧ (w.heap.size ≤ s_) ∧ (w.heap.size ≤ s_) ∧ (gb131 ≠ s_) ∧ (s_ ≠ gb131) ∧ (gb140 ≠ s_) ∧ (s_ ≠ gb140) ∧ (gb148 ≠ s_) ∧ (s_ ≠ gb148) ∧ (gb158 ≠ s_) ∧ (s_ ≠ gb158) ∧ (Below w.heap.size w w')) ?_ ?_
                              rotate_left
                              ·intro hJ12
                               refine three_ (i := 1) (j := 5) (k := 12) (Ni := some 138) (Nj := some 142) (Nk := some 22) #[true, true, true, false, true, false, false, false, false, false, false, false, false, false, false, false] #[true, false, true, false, true, true, false, false, false, false, false, false, false, false, false, false] #[true, false, true, false, true, false, false, false, false, false, false, false, true, false, false, false] rfl rfl rfl rfl rfl rfl (three_of HT_.out (by kernel_rfl)) (by decide) (by decide) (by decide) (fun K hK => ?_) (fun K hK => ?_) (fun K hK => ?_)
                               ·skip
                                refine Kd.R_lit_step (Kd.int .i64) _ 3 ?hg (N := 138) ?hd (xs := ([] : List Int)) (inner := []) (ok := fun _ => True) (okp := fun _ => True) ?hr ?hp (fun _ hk => hk) trivial (Below.refl _ _) (Nat.le_refl _) (by simp) ?_; (case hd => rfl); (case hg => rfl); (case hr => first | (go_simp; done) | (go_simp; rfl)); (case hp => exact (Reps.none _ _))
                                intro v160 w89 ho90 hb hg_ hnew_
                                clear hg_ hnew_
                                (first | rw [← Ny159.out] at ho90 | (simp only [Int.reduceToNat] at ho90; rw [← Ny159.out] at ho90))
                                have n0_ := Aside0.mk (Kd.R_lower ho90 (below_size HB.out)); have n1_ := Aside0.mk (blk_below BK131.out hb); have n2_ := Aside0.mk (blk_below BK140.out hb); have n3_ := Aside0.mk (blk_below BK148.out hb); have n4_ := Aside0.mk (blk_below BK158.out hb); have n5_ := Aside0.mk (below_step HB.out hb); clear BK131; clear BK140; clear BK148; clear BK158; clear HB; have HO161 := n0_; have BK131 := n1_; have BK140 := n2_; have BK148 := n3_; have BK158 := n4_; have HB := n5_; clear n0_ n1_ n2_ n3_ n4_ n5_; clear hb ho90
                                refine hK.out _ _ ⟨(blk_cell BK131.out 0).trans rfl, (blk_cell BK131.out 1).trans rfl⟩ (fun hHeld => ?_)
                                clear hK K
                                refine norm_ (a' := ?_) ?_ ?_
                                rotate_left
                                ·show Act.put _ (some 138) _ = _
                                 simp only [Act.put, List.setIfInBounds_toArray, List.set_cons_zero, List.set_cons_succ, i64_w, i32_w]
                                 rfl
                                exact norm_ (by simp only [putAll, Act.put, List.setIfInBounds_toArray, List.set_cons_zero, List.set_cons_succ]) (hJ1 (v160) _ ⟨hHeld, HO161.out, BK131.out, BK140.out, BK148.out, BK158.out, HB.out⟩)
                               ·skip
                                refine Kd.R_lit_step (Kd.int .i64) _ 3 ?hg (N := 142) ?hd (xs := ([a2] : List Int)) (inner := [.int .i64 a2]) (ok := fun _ => True) (okp := fun _ => True) ?hr ?hp (fun _ hk => hk) trivial (Below.refl _ _) (Nat.le_refl _) (by simp) ?_; (case hd => rfl); (case hg => rfl); (case hr => first | (go_simp; done) | (go_simp; rfl)); (case hp => exact (Reps.one (show Kd.M (Kd.int .i64) _ _ _ a2 [.int .i64 a2] from rfl) (Reps.none _ _)))
                                intro v166 w89 ho90 hb hg_ hnew_
                                clear hg_ hnew_
                                (first | rw [← Ny165.out] at ho90 | (simp only [Int.reduceToNat] at ho90; rw [← Ny165.out] at ho90))
                                have n0_ := Aside0.mk (Kd.R_lower ho90 (below_size HB.out)); have n1_ := Aside0.mk (blk_below BK131.out hb); have n2_ := Aside0.mk (blk_below BK140.out hb); have n3_ := Aside0.mk (blk_below BK148.out hb); have n4_ := Aside0.mk (blk_below BK158.out hb); have n5_ := Aside0.mk (below_step HB.out hb); clear BK131; clear BK140; clear BK148; clear BK158; clear HB; have HO167 := n0_; have BK131 := n1_; have BK140 := n2_; have BK148 := n3_; have BK158 := n4_; have HB := n5_; clear n0_ n1_ n2_ n3_ n4_ n5_; clear hb ho90
                                refine hK.out _ _ ⟨(blk_cell BK131.out 0).trans rfl, (blk_cell BK131.out 1).trans rfl⟩ (fun hHeld => ?_)
                                clear hK K
                                refine norm_ (a' := ?_) ?_ ?_
                                rotate_left
                                ·show Act.put _ (some 142) _ = _
                                 simp only [Act.put, List.setIfInBounds_toArray, List.set_cons_zero, List.set_cons_succ, i64_w, i32_w]
                                 rfl
                                exact norm_ (by simp only [putAll, Act.put, List.setIfInBounds_toArray, List.set_cons_zero, List.set_cons_succ]) (hJ5 (v166) _ ⟨hHeld, HO167.out, BK131.out, BK140.out, BK148.out, BK158.out, HB.out⟩)
                               ·skip
                                refine box_step ?hg (N := 22) ?hd (cs := #[.int .i64 0, .int .i64 0, .int .i64 0, .bool false]) (t := 30) ?hr ?_; (case hd => rfl); (case hg => rfl); (case hr => first | (go_simp; done) | (go_simp; rfl))
                                intro gb177 hg w89 hbox hb
                                have n0_ := Aside0.mk (blk_below BK131.out hb); have n1_ := Aside0.mk (blk_below BK140.out hb); have n2_ := Aside0.mk (blk_below BK148.out hb); have n3_ := Aside0.mk (blk_below BK158.out hb); have n4_ := Aside0.mk (below_step HB.out hb); have n5_ := Aside0.mk (hbox); have n6_ := Aside0.mk ((by rw [hg]; exact (below_size HB.out) : w.heap.size ≤ gb177)); have n7_ := Aside0.mk ((by rw [hg]; exact (below_size HB.out) : w.heap.size ≤ gb177)); have n8_ := Aside0.mk ((by rw [hg]; exact Nat.ne_of_lt (blk_lt BK131.out) : gb131 ≠ gb177)); have n9_ := Aside0.mk ((by rw [hg]; exact Nat.ne_of_gt (blk_lt BK131.out) : gb177 ≠ gb131)); have n10_ := Aside0.mk ((by rw [hg]; exact Nat.ne_of_lt (blk_lt BK140.out) : gb140 ≠ gb177)); have n11_ := Aside0.mk ((by rw [hg]; exact Nat.ne_of_gt (blk_lt BK140.out) : gb177 ≠ gb140)); have n12_ := Aside0.mk ((by rw [hg]; exact Nat.ne_of_lt (blk_lt BK148.out) : gb148 ≠ gb177)); have n13_ := Aside0.mk ((by rw [hg]; exact Nat.ne_of_gt (blk_lt BK148.out) : gb177 ≠ gb148)); have n14_ := Aside0.mk ((by rw [hg]; exact Nat.ne_of_lt (blk_lt BK158.out) : gb158 ≠ gb177)); have n15_ := Aside0.mk ((by rw [hg]; exact Nat.ne_of_gt (blk_lt BK158.out) : gb177 ≠ gb158)); clear BK131; clear BK140; clear BK148; clear BK158; clear HB; have BK131 := n0_; have BK140 := n1_; have BK148 := n2_; have BK158 := n3_; have HB := n4_; have BK177 := n5_; have GW177 := n6_; have GE177 := n7_; have NB131_177 := n8_; have NB177_131 := n9_
                                have NB140_177 := n10_; have NB177_140 := n11_; have NB148_177 := n12_; have NB177_148 := n13_; have NB158_177 := n14_; have NB177_158 := n15_; clear n0_ n1_ n2_ n3_ n4_ n5_ n6_ n7_ n8_ n9_ n10_ n11_ n12_ n13_ n14_ n15_; clear hb hbox hg
                                refine hK.out _ _ ⟨(blk_cell BK131.out 0).trans rfl, (blk_cell BK131.out 1).trans rfl⟩ (fun hHeld => ?_)
                                clear hK K
                                refine norm_ (a' := ?_) ?_ ?_
                                rotate_left
                                ·show Act.put _ (some 22) _ = _
                                 simp only [Act.put, List.setIfInBounds_toArray, List.set_cons_zero, List.set_cons_succ, i64_w, i32_w]
                                 rfl
                                exact norm_ (by simp only [putAll, Act.put, List.setIfInBounds_toArray, List.set_cons_zero, List.set_cons_succ]) (hJ12 (gb177) _ ⟨hHeld, BK131.out, BK140.out, BK148.out, BK158.out, BK177.out, GW177.out, GE177.out, NB131_177.out, NB177_131.out, NB140_177.out, NB177_140.out, NB148_177.out, NB177_148.out, NB158_177.out, NB177_158.out, HB.out⟩)
                              ·skip
                               rintro gb177 w90 ⟨hS_, h0_, h1_, h2_, h3_, h4_, h5_, h6_, h7_, h8_, h9_, h10_, h11_, h12_, h13_, h14_, h15_⟩
                               have n0_ : Aside0 (w90.heap[gb131]? = some (.cells #[.slice A0_0 l0_0.length c0_0, .int .i64 a0_1] 24 (0, 0))) := ⟨h0_⟩; have n1_ : Aside0 (w90.heap[gb140]? = some (.cells #[.int .i64 t134, .int .i64 t135, .int .i64 t136, .bool t137] 30 (0, 0))) := ⟨h1_⟩; have n2_ : Aside0 (w90.heap[gb148]? = some (.cells #[.int .i64 t142, .int .i64 t143, .int .i64 t144, .bool t145] 30 (0, 0))) := ⟨h2_⟩; have n3_ : Aside0 (w90.heap[gb158]? = some (.cells #[.int .i64 t153, .int .i64 t154, .int .i64 t155, .bool t156] 30 (0, 0))) := ⟨h3_⟩; have n4_ : Aside0 (w90.heap[gb177]? = some (.cells #[.int .i64 0, .int .i64 0, .int .i64 0, .bool false] 30 (0, 0))) := ⟨h4_⟩; have n5_ : Aside0 (w.heap.size ≤ gb177) := ⟨h5_⟩; have n6_ : Aside0 (w.heap.size ≤ gb177) := ⟨h6_⟩; have n7_ : Aside0 (gb131 ≠ gb177) := ⟨h7_⟩; have n8_ : Aside0 (gb177 ≠ gb131) := ⟨h8_⟩; have n9_ : Aside0 (gb140 ≠ gb177) := ⟨h9_⟩; have n10_ : Aside0 (gb177 ≠ gb140) := ⟨h10_⟩; have n11_ : Aside0 (gb148 ≠ gb177) := ⟨h11_⟩; have n12_ : Aside0 (gb177 ≠ gb148) := ⟨h12_⟩; have n13_ : Aside0 (gb158 ≠ gb177) := ⟨h13_⟩; have n14_ : Aside0 (gb177 ≠ gb158) := ⟨h14_⟩; have n15_ : Aside0 (Below w.heap.size w w90) := ⟨h15_⟩; clear BK131; clear BK140; clear BK148; clear BK158; clear HB; clear h0_ h1_ h2_ h3_ h4_ h5_ h6_ h7_ h8_ h9_ h10_ h11_ h12_ h13_ h14_ h15_; have BK131 := n0_; have BK140 := n1_; have BK148 := n2_; have BK158 := n3_; have BK177 := n4_; have GW177 := n5_; have GE177 := n6_
                               have NB131_177 := n7_; have NB177_131 := n8_; have NB140_177 := n9_; have NB177_140 := n10_; have NB148_177 := n11_; have NB177_148 := n12_; have NB158_177 := n13_; have NB177_158 := n14_; have HB := n15_; clear n0_ n1_ n2_ n3_ n4_ n5_ n6_ n7_ n8_ n9_ n10_ n11_ n12_ n13_ n14_ n15_; have hHeld : w90.cell? ⟨gb131, 0, none⟩ = some (.slice A0_0 l0_0.length c0_0) ∧ w90.cell? ⟨gb131, 1, none⟩ = some (.int .i64 a0_1) := hS_
                               refine norm_ (a' := ?_) ?_ ?_
                               rotate_left
                               ·simp only [putAll, Act.put, List.setIfInBounds_toArray, List.set_cons_zero, List.set_cons_succ]
                                rfl
                               refine two_ (i := 1) (j := 5) (Ni := some 138) (Nj := some 142) #[true, true, true, false, true, false, false, false, false, false, false, false, true, false, false, false] #[true, false, true, false, true, true, false, false, false, false, false, false, true, false, false, false] rfl rfl rfl rfl (two_of HT_.out (by kernel_rfl)) (by decide) (by decide) (fun K hK => ?_) (fun K hK => ?_)
                               ·skip
                                refine Kd.R_lit_step (Kd.int .i64) _ 3 ?hg (N := 138) ?hd (xs := ([] : List Int)) (inner := []) (ok := fun _ => True) (okp := fun _ => True) ?hr ?hp (fun _ hk => hk) trivial (Below.refl _ _) (Nat.le_refl _) (by simp) ?_; (case hd => rfl); (case hg => rfl); (case hr => first | (go_simp; done) | (go_simp; rfl)); (case hp => exact (Reps.none _ _))
                                intro v160 w91 ho92 hb hg_ hnew_
                                clear hg_ hnew_
                                (first | rw [← Ny159.out] at ho92 | (simp only [Int.reduceToNat] at ho92; rw [← Ny159.out] at ho92))
                                have n0_ := Aside0.mk (Kd.R_lower ho92 (below_size HB.out)); have n1_ := Aside0.mk (blk_below BK131.out hb); have n2_ := Aside0.mk (blk_below BK140.out hb); have n3_ := Aside0.mk (blk_below BK148.out hb); have n4_ := Aside0.mk (blk_below BK158.out hb); have n5_ := Aside0.mk (blk_below BK177.out hb); have n6_ := Aside0.mk (below_step HB.out hb); clear BK131; clear BK140; clear BK148; clear BK158; clear BK177; clear HB; have HO161 := n0_; have BK131 := n1_; have BK140 := n2_; have BK148 := n3_; have BK158 := n4_; have BK177 := n5_; have HB := n6_; clear n0_ n1_ n2_ n3_ n4_ n5_ n6_; clear hb ho92
                                refine hK.out _ _ ⟨(blk_cell BK131.out 0).trans rfl, (blk_cell BK131.out 1).trans rfl⟩ (fun hHeld => ?_)
                                clear hK K
                                refine norm_ (a' := ?_) ?_ ?_
                                rotate_left
                                ·show Act.put _ (some 138) _ = _
                                 simp only [Act.put, List.setIfInBounds_toArray, List.set_cons_zero, List.set_cons_succ, i64_w, i32_w]
                                 rfl
                                exact norm_ (by simp only [putAll, Act.put, List.setIfInBounds_toArray, List.set_cons_zero, List.set_cons_succ]) (hJ1_12 (v160, gb177) _ ⟨hHeld, HO161.out, BK131.out, BK140.out, BK148.out, BK158.out, BK177.out, GW177.out, GE177.out, NB131_177.out, NB177_131.out, NB140_177.out, NB177_140.out, NB148_177.out, NB177_148.out, NB158_177.out, NB177_158.out, HB.out⟩)
                               ·skip
                                refine Kd.R_lit_step (Kd.int .i64) _ 3 ?hg (N := 142) ?hd (xs := ([a2] : List Int)) (inner := [.int .i64 a2]) (ok := fun _ => True) (okp := fun _ => True) ?hr ?hp (fun _ hk => hk) trivial (Below.refl _ _) (Nat.le_refl _) (by simp) ?_; (case hd => rfl); (case hg => rfl); (case hr => first | (go_simp; done) | (go_simp; rfl)); (case hp => exact (Reps.one (show Kd.M (Kd.int .i64) _ _ _ a2 [.int .i64 a2] from rfl) (Reps.none _ _)))
                                intro v166 w91 ho92 hb hg_ hnew_
                                clear hg_ hnew_
                                (first | rw [← Ny165.out] at ho92 | (simp only [Int.reduceToNat] at ho92; rw [← Ny165.out] at ho92))
                                have n0_ := Aside0.mk (Kd.R_lower ho92 (below_size HB.out)); have n1_ := Aside0.mk (blk_below BK131.out hb); have n2_ := Aside0.mk (blk_below BK140.out hb); have n3_ := Aside0.mk (blk_below BK148.out hb); have n4_ := Aside0.mk (blk_below BK158.out hb); have n5_ := Aside0.mk (blk_below BK177.out hb); have n6_ := Aside0.mk (below_step HB.out hb); clear BK131; clear BK140; clear BK148; clear BK158; clear BK177; clear HB; have HO167 := n0_; have BK131 := n1_; have BK140 := n2_; have BK148 := n3_; have BK158 := n4_; have BK177 := n5_; have HB := n6_; clear n0_ n1_ n2_ n3_ n4_ n5_ n6_; clear hb ho92
                                refine hK.out _ _ ⟨(blk_cell BK131.out 0).trans rfl, (blk_cell BK131.out 1).trans rfl⟩ (fun hHeld => ?_)
                                clear hK K
                                refine norm_ (a' := ?_) ?_ ?_
                                rotate_left
                                ·show Act.put _ (some 142) _ = _
                                 simp only [Act.put, List.setIfInBounds_toArray, List.set_cons_zero, List.set_cons_succ, i64_w, i32_w]
                                 rfl
                                exact norm_ (by simp only [putAll, Act.put, List.setIfInBounds_toArray, List.set_cons_zero, List.set_cons_succ]) (hJ5_12 (v166, gb177) _ ⟨hHeld, HO167.out, BK131.out, BK140.out, BK148.out, BK158.out, BK177.out, GW177.out, GE177.out, NB131_177.out, NB177_131.out, NB140_177.out, NB177_140.out, NB148_177.out, NB177_148.out, NB158_177.out, NB177_158.out, HB.out⟩)
                             ·skip
                              rintro v166 w91 ⟨hS_, h0_, h1_, h2_, h3_, h4_, h5_⟩
                              have n0_ : Aside0 (Kd.R (Kd.int .i64) 3 w91 w.heap.size (fun _ => True) v166 y165) := ⟨h0_⟩; have n1_ : Aside0 (w91.heap[gb131]? = some (.cells #[.slice A0_0 l0_0.length c0_0, .int .i64 a0_1] 24 (0, 0))) := ⟨h1_⟩; have n2_ : Aside0 (w91.heap[gb140]? = some (.cells #[.int .i64 t134, .int .i64 t135, .int .i64 t136, .bool t137] 30 (0, 0))) := ⟨h2_⟩; have n3_ : Aside0 (w91.heap[gb148]? = some (.cells #[.int .i64 t142, .int .i64 t143, .int .i64 t144, .bool t145] 30 (0, 0))) := ⟨h3_⟩; have n4_ : Aside0 (w91.heap[gb158]? = some (.cells #[.int .i64 t153, .int .i64 t154, .int .i64 t155, .bool t156] 30 (0, 0))) := ⟨h4_⟩; have n5_ : Aside0 (Below w.heap.size w w91) := ⟨h5_⟩; clear BK131; clear BK140; clear BK148; clear BK158; clear HB; clear h0_ h1_ h2_ h3_ h4_ h5_; have HO167 := n0_; have BK131 := n1_; have BK140 := n2_; have BK148 := n3_; have BK158 := n4_; have HB := n5_; clear n0_ n1_ n2_ n3_ n4_ n5_; have hHeld : w91.cell? ⟨gb131, 0, none⟩ = some (.slice A0_0 l0_0.length c0_0) ∧ w91.cell? ⟨gb131, 1, none⟩ = some (.int .i64 a0_1) := hS_
                              refine norm_ (a' := ?_) ?_ ?_
                              rotate_left
                              ·simp only [putAll, Act.put, List.setIfInBounds_toArray, List.set_cons_zero, List.set_cons_succ]
                               rfl
                              refine two_ (i := 1) (j := 12) (Ni := some 138) (Nj := some 22) #[true, true, true, false, true, true, false, false, false, false, false, false, false, false, false, false] #[true, false, true, false, true, true, false, false, false, false, false, false, true, false, false, false] rfl rfl rfl rfl (two_of HT_.out (by kernel_rfl)) (by decide) (by decide) (fun K hK => ?_) (fun K hK => ?_)
                              ·skip
                               refine Kd.R_lit_step (Kd.int .i64) _ 3 ?hg (N := 138) ?hd (xs := ([] : List Int)) (inner := []) (ok := fun _ => True) (okp := fun _ => True) ?hr ?hp (fun _ hk => hk) trivial (Below.refl _ _) (Nat.le_refl _) (by simp) ?_; (case hd => rfl); (case hg => rfl); (case hr => first | (go_simp; done) | (go_simp; rfl)); (case hp => exact (Reps.none _ _))
                               intro v160 w92 ho93 hb hg_ hnew_
                               clear hg_ hnew_
                               (first | rw [← Ny159.out] at ho93 | (simp only [Int.reduceToNat] at ho93; rw [← Ny159.out] at ho93))
                               have n0_ := Aside0.mk (Kd.R_elder' HO167.out (Kd.R_base ho93) hb); have n1_ := Aside0.mk (Kd.R_lower (Kd.R_new' ho93 (Kd.R_lt HO167.out)) (below_size HB.out)); have n2_ := Aside0.mk (blk_below BK131.out hb); have n3_ := Aside0.mk (blk_below BK140.out hb); have n4_ := Aside0.mk (blk_below BK148.out hb); have n5_ := Aside0.mk (blk_below BK158.out hb); have n6_ := Aside0.mk (below_step HB.out hb); clear HO167; clear BK131; clear BK140; clear BK148; clear BK158; clear HB; have HO167 := n0_; have HO161 := n1_; have BK131 := n2_; have BK140 := n3_; have BK148 := n4_; have BK158 := n5_; have HB := n6_; clear n0_ n1_ n2_ n3_ n4_ n5_ n6_; clear hb ho93
                               refine hK.out _ _ ⟨(blk_cell BK131.out 0).trans rfl, (blk_cell BK131.out 1).trans rfl⟩ (fun hHeld => ?_)
                               clear hK K
                               refine norm_ (a' := ?_) ?_ ?_
                               rotate_left
                               ·show Act.put _ (some 138) _ = _
                                simp only [Act.put, List.setIfInBounds_toArray, List.set_cons_zero, List.set_cons_succ, i64_w, i32_w]
                                rfl
                               exact norm_ (by simp only [putAll, Act.put, List.setIfInBounds_toArray, List.set_cons_zero, List.set_cons_succ]) (hJ1_5 (v160, v166) _ ⟨hHeld, (by (with_reducible repeat (first | apply Kd.R_alloc | apply Kd.R_drewN | apply Kd.R_drew)); exact Kd.R_mono HO161.out (fun _ hk => hk.2)), (by (with_reducible repeat (first | apply Kd.R_alloc | apply Kd.R_drewN | apply Kd.R_drew)); exact Kd.R_mono HO167.out (fun _ hk => hk.2)), BK131.out, BK140.out, BK148.out, BK158.out, HB.out⟩)
                              ·skip
                               refine box_step ?hg (N := 22) ?hd (cs := #[.int .i64 0, .int .i64 0, .int .i64 0, .bool false]) (t := 30) ?hr ?_; (case hd => rfl); (case hg => rfl); (case hr => first | (go_simp; done) | (go_simp; rfl))
                               intro gb177 hg w92 hbox hb
                               have n0_ := Aside0.mk (Kd.R_below HO167.out hb); have n1_ := Aside0.mk (blk_below BK131.out hb); have n2_ := Aside0.mk (blk_below BK140.out hb); have n3_ := Aside0.mk (blk_below BK148.out hb); have n4_ := Aside0.mk (blk_below BK158.out hb); have n5_ := Aside0.mk (below_step HB.out hb); have n6_ := Aside0.mk (hbox); have n7_ := Aside0.mk ((by rw [hg]; exact (below_size HB.out) : w.heap.size ≤ gb177)); have n8_ := Aside0.mk ((by rw [hg]; exact (below_size HB.out) : w.heap.size ≤ gb177)); have n9_ := Aside0.mk ((by rw [hg]; exact Nat.ne_of_lt (blk_lt BK131.out) : gb131 ≠ gb177)); have n10_ := Aside0.mk ((by rw [hg]; exact Nat.ne_of_gt (blk_lt BK131.out) : gb177 ≠ gb131)); have n11_ := Aside0.mk ((by rw [hg]; exact Nat.ne_of_lt (blk_lt BK140.out) : gb140 ≠ gb177)); have n12_ := Aside0.mk ((by rw [hg]; exact Nat.ne_of_gt (blk_lt BK140.out) : gb177 ≠ gb140)); have n13_ := Aside0.mk ((by rw [hg]; exact Nat.ne_of_lt (blk_lt BK148.out) : gb148 ≠ gb177)); have n14_ := Aside0.mk ((by rw [hg]; exact Nat.ne_of_gt (blk_lt BK148.out) : gb177 ≠ gb148)); have n15_ := Aside0.mk ((by rw [hg]; exact Nat.ne_of_lt (blk_lt BK158.out) : gb158 ≠ gb177)); have n16_ := Aside0.mk ((by rw [hg]; exact Nat.ne_of_gt (blk_lt BK158.out) : gb177 ≠ gb158)); clear HO167; clear BK131; clear BK140; clear BK148; clear BK158; clear HB; have HO167 := n0_; have BK131 := n1_; have BK140 := n2_; have BK148 := n3_; have BK158 := n4_; have HB := n5_; have BK177 := n6_
                               have GW177 := n7_; have GE177 := n8_; have NB131_177 := n9_; have NB177_131 := n10_; have NB140_177 := n11_; have NB177_140 := n12_; have NB148_177 := n13_; have NB177_148 := n14_; have NB158_177 := n15_; have NB177_158 := n16_; clear n0_ n1_ n2_ n3_ n4_ n5_ n6_ n7_ n8_ n9_ n10_ n11_ n12_ n13_ n14_ n15_ n16_; clear hb hbox hg
                               refine hK.out _ _ ⟨(blk_cell BK131.out 0).trans rfl, (blk_cell BK131.out 1).trans rfl⟩ (fun hHeld => ?_)
                               clear hK K
                               refine norm_ (a' := ?_) ?_ ?_
                               rotate_left
                               ·show Act.put _ (some 22) _ = _
                                simp only [Act.put, List.setIfInBounds_toArray, List.set_cons_zero, List.set_cons_succ, i64_w, i32_w]
                                rfl
                               exact norm_ (by simp only [putAll, Act.put, List.setIfInBounds_toArray, List.set_cons_zero, List.set_cons_succ]) (hJ5_12 (v166, gb177) _ ⟨hHeld, HO167.out, BK131.out, BK140.out, BK148.out, BK158.out, BK177.out, GW177.out, GE177.out, NB131_177.out, NB177_131.out, NB140_177.out, NB177_140.out, NB148_177.out, NB177_148.out, NB158_177.out, NB177_158.out, HB.out⟩)
                            ·skip
                             rintro v160 w91 ⟨hS_, h0_, h1_, h2_, h3_, h4_, h5_⟩
                             have n0_ : Aside0 (Kd.R (Kd.int .i64) 3 w91 w.heap.size (fun _ => True) v160 y159) := ⟨h0_⟩; have n1_ : Aside0 (w91.heap[gb131]? = some (.cells #[.slice A0_0 l0_0.length c0_0, .int .i64 a0_1] 24 (0, 0))) := ⟨h1_⟩; have n2_ : Aside0 (w91.heap[gb140]? = some (.cells #[.int .i64 t134, .int .i64 t135, .int .i64 t136, .bool t137] 30 (0, 0))) := ⟨h2_⟩; have n3_ : Aside0 (w91.heap[gb148]? = some (.cells #[.int .i64 t142, .int .i64 t143, .int .i64 t144, .bool t145] 30 (0, 0))) := ⟨h3_⟩; have n4_ : Aside0 (w91.heap[gb158]? = some (.cells #[.int .i64 t153, .int .i64 t154, .int .i64 t155, .bool t156] 30 (0, 0))) := ⟨h4_⟩; have n5_ : Aside0 (Below w.heap.size w w91) := ⟨h5_⟩; clear BK131; clear BK140; clear BK148; clear BK158; clear HB; clear h0_ h1_ h2_ h3_ h4_ h5_; have HO161 := n0_; have BK131 := n1_; have BK140 := n2_; have BK148 := n3_; have BK158 := n4_; have HB := n5_; clear n0_ n1_ n2_ n3_ n4_ n5_; have hHeld : w91.cell? ⟨gb131, 0, none⟩ = some (.slice A0_0 l0_0.length c0_0) ∧ w91.cell? ⟨gb131, 1, none⟩ = some (.int .i64 a0_1) := hS_
                             refine norm_ (a' := ?_) ?_ ?_
                             rotate_left
                             ·simp only [putAll, Act.put, List.setIfInBounds_toArray, List.set_cons_zero, List.set_cons_succ]
                              rfl
                             refine three_ (i := 3) (j := 5) (k := 12) (Ni := some 140) (Nj := some 142) (Nk := some 22) #[true, true, true, true, true, false, false, false, false, false, false, false, false, false, false, false] #[true, true, true, false, true, true, false, false, false, false, false, false, false, false, false, false] #[true, true, true, false, true, false, false, false, false, false, false, false, true, false, false, false] rfl rfl rfl rfl rfl rfl (three_of HT_.out (by kernel_rfl)) (by decide) (by decide) (by decide) (fun K hK => ?_) (fun K hK => ?_) (fun K hK => ?_)
                             ·skip
                              refine Kd.R_append_rows_step (Kd.int .i64) (w0 := w) w.heap.size (by rfl) (.tmp 138) (.tmp 139) 25 3 (.int .i64 0) 8 rfl Try.underlying25 info3 rfl (by decide) (by omega) v160 y159 l1 _ _ _ (fun _ => True) (fun _ => False) rfl rfl ?aO ?aR (fun _ _ h => h) (fun _ h => h.elim) ?aF ?aB ?aS ?aL ?_
                              (case aR => repeat (first | exact (Kd.C_below HR1.out HB.out) | (with_reducible refine Kd.C_alloc ?_ _) | (with_reducible refine Kd.C_drewN ?_ _) | (with_reducible refine Kd.C_drew ?_)))
                              (case aB => exact HB.out)
                              (case aF => exact (fun _ _ => trivial))
                              (case aO => exact HO161.out)
                              (case aS => exact (below_size HB.out))
                              (case aL => have := LMc69.out; omega)
                              intro v163 w92 ho hb hg hat
                              rw [← Ny162.out] at ho
                              have n0_ := Aside0.mk (blk_grown (g := gb131) (o := .cells #[.slice A0_0 l0_0.length c0_0, .int .i64 a0_1] 24 (0, 0)) BK131.out hg (Kd.R_ne HO161.out BK131.out (by decide))); have n1_ := Aside0.mk (blk_grown (g := gb140) (o := .cells #[.int .i64 t134, .int .i64 t135, .int .i64 t136, .bool t137] 30 (0, 0)) BK140.out hg (Kd.R_ne HO161.out BK140.out (by decide))); have n2_ := Aside0.mk (blk_grown (g := gb148) (o := .cells #[.int .i64 t142, .int .i64 t143, .int .i64 t144, .bool t145] 30 (0, 0)) BK148.out hg (Kd.R_ne HO161.out BK148.out (by decide))); have n3_ := Aside0.mk (blk_grown (g := gb158) (o := .cells #[.int .i64 t153, .int .i64 t154, .int .i64 t155, .bool t156] 30 (0, 0)) BK158.out hg (Kd.R_ne HO161.out BK158.out (by decide))); have n4_ := Aside0.mk (hb); have n5_ := Aside0.mk (ho); clear BK131; clear BK140; clear BK148; clear BK158; clear HB; clear HO161; have BK131 := n0_; have BK140 := n1_; have BK148 := n2_; have BK158 := n3_; have HB := n4_; have HO164 := n5_; clear n0_ n1_ n2_ n3_ n4_ n5_; clear ho hb hg hat
                              refine hK.out _ _ ⟨(blk_cell BK131.out 0).trans rfl, (blk_cell BK131.out 1).trans rfl⟩ (fun hHeld => ?_)
                              clear hK K
                              refine norm_ (a' := ?_) ?_ ?_
                              rotate_left
                              ·show Act.put _ (some 140) _ = _
                               simp only [Act.put, List.setIfInBounds_toArray, List.set_cons_zero, List.set_cons_succ, i64_w, i32_w]
                               rfl
                              exact norm_ (by simp only [putAll, Act.put, List.setIfInBounds_toArray, List.set_cons_zero, List.set_cons_succ]) (hJ1_3 (v160, v163) _ ⟨hHeld, HO164.out, BK131.out, BK140.out, BK148.out, BK158.out, HB.out⟩)
                             ·skip
                              refine Kd.R_lit_step (Kd.int .i64) _ 3 ?hg (N := 142) ?hd (xs := ([a2] : List Int)) (inner := [.int .i64 a2]) (ok := fun _ => True) (okp := fun _ => True) ?hr ?hp (fun _ hk => hk) trivial (Below.refl _ _) (Nat.le_refl _) (by simp) ?_; (case hd => rfl); (case hg => rfl); (case hr => first | (go_simp; done) | (go_simp; rfl)); (case hp => exact (Reps.one (show Kd.M (Kd.int .i64) _ _ _ a2 [.int .i64 a2] from rfl) (Reps.none _ _)))
                              intro v166 w92 ho93 hb hg_ hnew_
                              clear hg_ hnew_
                              (first | rw [← Ny165.out] at ho93 | (simp only [Int.reduceToNat] at ho93; rw [← Ny165.out] at ho93))
                              have n0_ := Aside0.mk (Kd.R_elder' HO161.out (Kd.R_base ho93) hb); have n1_ := Aside0.mk (Kd.R_lower (Kd.R_new' ho93 (Kd.R_lt HO161.out)) (below_size HB.out)); have n2_ := Aside0.mk (blk_below BK131.out hb); have n3_ := Aside0.mk (blk_below BK140.out hb); have n4_ := Aside0.mk (blk_below BK148.out hb); have n5_ := Aside0.mk (blk_below BK158.out hb); have n6_ := Aside0.mk (below_step HB.out hb); clear HO161; clear BK131; clear BK140; clear BK148; clear BK158; clear HB; have HO161 := n0_; have HO167 := n1_; have BK131 := n2_; have BK140 := n3_; have BK148 := n4_; have BK158 := n5_; have HB := n6_; clear n0_ n1_ n2_ n3_ n4_ n5_ n6_; clear hb ho93
                              refine hK.out _ _ ⟨(blk_cell BK131.out 0).trans rfl, (blk_cell BK131.out 1).trans rfl⟩ (fun hHeld => ?_)
                              clear hK K
                              refine norm_ (a' := ?_) ?_ ?_
                              rotate_left
                              ·show Act.put _ (some 142) _ = _
                               simp only [Act.put, List.setIfInBounds_toArray, List.set_cons_zero, List.set_cons_succ, i64_w, i32_w]
                               rfl
                              exact norm_ (by simp only [putAll, Act.put, List.setIfInBounds_toArray, List.set_cons_zero, List.set_cons_succ]) (hJ1_5 (v160, v166) _ ⟨hHeld, (by (with_reducible repeat (first | apply Kd.R_alloc | apply Kd.R_drewN | apply Kd.R_drew)); exact Kd.R_mono HO161.out (fun _ hk => hk.2)), (by (with_reducible repeat (first | apply Kd.R_alloc | apply Kd.R_drewN | apply Kd.R_drew)); exact Kd.R_mono HO167.out (fun _ hk => hk.2)), BK131.out, BK140.out, BK148.out, BK158.out, HB.out⟩)
                             ·skip
                              refine box_step ?hg (N := 22) ?hd (cs := #[.int .i64 0, .int .i64 0, .int .i64 0, .bool false]) (t := 30) ?hr ?_; (case hd => rfl); (case hg => rfl); (case hr => first | (go_simp; done) | (go_simp; rfl))
                              intro gb177 hg w92 hbox hb
                              have n0_ := Aside0.mk (Kd.R_below HO161.out hb); have n1_ := Aside0.mk (blk_below BK131.out hb); have n2_ := Aside0.mk (blk_below BK140.out hb); have n3_ := Aside0.mk (blk_below BK148.out hb); have n4_ := Aside0.mk (blk_below BK158.out hb); have n5_ := Aside0.mk (below_step HB.out hb); have n6_ := Aside0.mk (hbox); have n7_ := Aside0.mk ((by rw [hg]; exact (below_size HB.out) : w.heap.size ≤ gb177)); have n8_ := Aside0.mk ((by rw [hg]; exact (below_size HB.out) : w.heap.size ≤ gb177)); have n9_ := Aside0.mk ((by rw [hg]; exact Nat.ne_of_lt (blk_lt BK131.out) : gb131 ≠ gb177)); have n10_ := Aside0.mk ((by rw [hg]; exact Nat.ne_of_gt (blk_lt BK131.out) : gb177 ≠ gb131)); have n11_ := Aside0.mk ((by rw [hg]; exact Nat.ne_of_lt (blk_lt BK140.out) : gb140 ≠ gb177)); have n12_ := Aside0.mk ((by rw [hg]; exact Nat.ne_of_gt (blk_lt BK140.out) : gb177 ≠ gb140)); have n13_ := Aside0.mk ((by rw [hg]; exact Nat.ne_of_lt (blk_lt BK148.out) : gb148 ≠ gb177)); have n14_ := Aside0.mk ((by rw [hg]; exact Nat.ne_of_gt (blk_lt BK148.out) : gb177 ≠ gb148)); have n15_ := Aside0.mk ((by rw [hg]; exact Nat.ne_of_lt (blk_lt BK158.out) : gb158 ≠ gb177)); have n16_ := Aside0.mk ((by rw [hg]; exact Nat.ne_of_gt (blk_lt BK158.out) : gb177 ≠ gb158)); clear HO161; clear BK131; clear BK140; clear BK148; clear BK158; clear HB; have HO161 := n0_; have BK131 := n1_; have BK140 := n2_; have BK148 := n3_; have BK158 := n4_; have HB := n5_; have BK177 := n6_
                              have GW177 := n7_; have GE177 := n8_; have NB131_177 := n9_; have NB177_131 := n10_; have NB140_177 := n11_; have NB177_140 := n12_; have NB148_177 := n13_; have NB177_148 := n14_; have NB158_177 := n15_; have NB177_158 := n16_; clear n0_ n1_ n2_ n3_ n4_ n5_ n6_ n7_ n8_ n9_ n10_ n11_ n12_ n13_ n14_ n15_ n16_; clear hb hbox hg
                              refine hK.out _ _ ⟨(blk_cell BK131.out 0).trans rfl, (blk_cell BK131.out 1).trans rfl⟩ (fun hHeld => ?_)
                              clear hK K
                              refine norm_ (a' := ?_) ?_ ?_
                              rotate_left
                              ·show Act.put _ (some 22) _ = _
                               simp only [Act.put, List.setIfInBounds_toArray, List.set_cons_zero, List.set_cons_succ, i64_w, i32_w]
                               rfl
                              exact norm_ (by simp only [putAll, Act.put, List.setIfInBounds_toArray, List.set_cons_zero, List.set_cons_succ]) (hJ1_12 (v160, gb177) _ ⟨hHeld, HO161.out, BK131.out, BK140.out, BK148.out, BK158.out, BK177.out, GW177.out, GE177.out, NB131_177.out, NB177_131.out, NB140_177.out, NB177_140.out, NB148_177.out, NB177_148.out, NB158_177.out, NB177_158.out, HB.out⟩)
                           ·skip
                            rintro ⟨v166, gb177⟩ w92 ⟨hS_, h0_, h1_, h2_, h3_, h4_, h5_, h6_, h7_, h8_, h9_, h10_, h11_, h12_, h13_, h14_, h15_, h16_⟩
                            have n0_ : Aside0 (Kd.R (Kd.int .i64) 3 w92 w.heap.size (fun _ => True) v166 y165) := ⟨h0_⟩; have n1_ : Aside0 (w92.heap[gb131]? = some (.cells #[.slice A0_0 l0_0.length c0_0, .int .i64 a0_1] 24 (0, 0))) := ⟨h1_⟩; have n2_ : Aside0 (w92.heap[gb140]? = some (.cells #[.int .i64 t134, .int .i64 t135, .int .i64 t136, .bool t137] 30 (0, 0))) := ⟨h2_⟩; have n3_ : Aside0 (w92.heap[gb148]? = some (.cells #[.int .i64 t142, .int .i64 t143, .int .i64 t144, .bool t145] 30 (0, 0))) := ⟨h3_⟩; have n4_ : Aside0 (w92.heap[gb158]? = some (.cells #[.int .i64 t153, .int .i64 t154, .int .i64 t155, .bool t156] 30 (0, 0))) := ⟨h4_⟩; have n5_ : Aside0 (w92.heap[gb177]? = some (.cells #[.int .i64 0, .int .i64 0, .int .i64 0, .bool false] 30 (0, 0))) := ⟨h5_⟩; have n6_ : Aside0 (w.heap.size ≤ gb177) := ⟨h6_⟩; have n7_ : Aside0 (w.heap.size ≤ gb177) := ⟨h7_⟩; have n8_ : Aside0 (gb131 ≠ gb177) := ⟨h8_⟩; have n9_ : Aside0 (gb177 ≠ gb131) := ⟨h9_⟩; have n10_ : Aside0 (gb140 ≠ gb177) := ⟨h10_⟩; have n11_ : Aside0 (gb177 ≠ gb140) := ⟨h11_⟩; have n12_ : Aside0 (gb148 ≠ gb177) := ⟨h12_⟩; have n13_ : Aside0 (gb177 ≠ gb148) := ⟨h13_⟩; have n14_ : Aside0 (gb158 ≠ gb177) := ⟨h14_⟩; have n15_ : Aside0 (gb177 ≠ gb158) := ⟨h15_⟩; have n16_ : Aside0 (Below w.heap.size w w92) := ⟨h16_⟩; clear BK131; clear BK140; clear BK148; clear BK158; clear HB; clear h0_ h1_ h2_ h3_ h4_ h5_ h6_ h7_ h8_ h9_ h10_ h11_ h12_ h13_ h14_ h15_ h16_; have HO167 := n0_; have BK131 := n1_
                            have BK140 := n2_; have BK148 := n3_; have BK158 := n4_; have BK177 := n5_; have GW177 := n6_; have GE177 := n7_; have NB131_177 := n8_; have NB177_131 := n9_; have NB140_177 := n10_; have NB177_140 := n11_; have NB148_177 := n12_; have NB177_148 := n13_; have NB158_177 := n14_; have NB177_158 := n15_; have HB := n16_; clear n0_ n1_ n2_ n3_ n4_ n5_ n6_ n7_ n8_ n9_ n10_ n11_ n12_ n13_ n14_ n15_ n16_; have hHeld : w92.cell? ⟨gb131, 0, none⟩ = some (.slice A0_0 l0_0.length c0_0) ∧ w92.cell? ⟨gb131, 1, none⟩ = some (.int .i64 a0_1) := hS_
                            refine norm_ (a' := ?_) ?_ ?_
                            rotate_left
                            ·simp only [putAll, Act.put, List.setIfInBounds_toArray, List.set_cons_zero, List.set_cons_succ]
                             rfl
                            refine one_ (i := 1) (N := some 138) #[true, true, true, false, true, true, false, false, false, false, false, false, true, false, false, false] rfl rfl (one_of HT_.out (by kernel_rfl)) (by decide) (fun K hK => ?_)
                            refine Kd.R_lit_step (Kd.int .i64) _ 3 ?hg (N := 138) ?hd (xs := ([] : List Int)) (inner := []) (ok := fun _ => True) (okp := fun _ => True) ?hr ?hp (fun _ hk => hk) trivial (Below.refl _ _) (Nat.le_refl _) (by simp) ?_; (case hd => rfl); (case hg => rfl); (case hr => first | (go_simp; done) | (go_simp; rfl)); (case hp => exact (Reps.none _ _))
                            intro v160 w93 ho94 hb hg_ hnew_
                            clear hg_ hnew_
                            (first | rw [← Ny159.out] at ho94 | (simp only [Int.reduceToNat] at ho94; rw [← Ny159.out] at ho94))
                            have n0_ := Aside0.mk (Kd.R_elder' HO167.out (Kd.R_base ho94) hb); have n1_ := Aside0.mk (Kd.R_lower (Kd.R_new' ho94 (Kd.R_lt HO167.out)) (below_size HB.out)); have n2_ := Aside0.mk (blk_below BK131.out hb); have n3_ := Aside0.mk (blk_below BK140.out hb); have n4_ := Aside0.mk (blk_below BK148.out hb); have n5_ := Aside0.mk (blk_below BK158.out hb); have n6_ := Aside0.mk (blk_below BK177.out hb); have n7_ := Aside0.mk (below_step HB.out hb); clear HO167; clear BK131; clear BK140; clear BK148; clear BK158; clear BK177; clear HB; have HO167 := n0_; have HO161 := n1_; have BK131 := n2_; have BK140 := n3_; have BK148 := n4_; have BK158 := n5_; have BK177 := n6_; have HB := n7_; clear n0_ n1_ n2_ n3_ n4_ n5_ n6_ n7_; clear hb ho94
                            refine hK.out _ _ ⟨(blk_cell BK131.out 0).trans rfl, (blk_cell BK131.out 1).trans rfl⟩ (fun hHeld => ?_)
                            clear hK K
                            refine norm_ (a' := ?_) ?_ ?_
                            rotate_left
                            ·show Act.put _ (some 138) _ = _
                             simp only [Act.put, List.setIfInBounds_toArray, List.set_cons_zero, List.set_cons_succ, i64_w, i32_w]
                             rfl
                            exact norm_ (by simp only [putAll, Act.put, List.setIfInBounds_toArray, List.set_cons_zero, List.set_cons_succ]) (hJ1_5_12 (v160, v166, gb177) _ ⟨hHeld, (by (with_reducible repeat (first | apply Kd.R_alloc | apply Kd.R_drewN | apply Kd.R_drew)); exact Kd.R_mono HO161.out (fun _ hk => hk.2)), (by (with_reducible repeat (first | apply Kd.R_alloc | apply Kd.R_drewN | apply Kd.R_drew)); exact Kd.R_mono HO167.out (fun _ hk => hk.2)), BK131.out, BK140.out, BK148.out, BK158.out, BK177.out, GW177.out, GE177.out, NB131_177.out, NB177_131.out, NB140_177.out, NB177_140.out, NB148_177.out, NB177_148.out, NB158_177.out, NB177_158.out, HB.out⟩)
                          ·skip
                           rintro ⟨v160, gb177⟩ w92 ⟨hS_, h0_, h1_, h2_, h3_, h4_, h5_, h6_, h7_, h8_, h9_, h10_, h11_, h12_, h13_, h14_, h15_, h16_⟩
                           have n0_ : Aside0 (Kd.R (Kd.int .i64) 3 w92 w.heap.size (fun _ => True) v160 y159) := ⟨h0_⟩; have n1_ : Aside0 (w92.heap[gb131]? = some (.cells #[.slice A0_0 l0_0.length c0_0, .int .i64 a0_1] 24 (0, 0))) := ⟨h1_⟩; have n2_ : Aside0 (w92.heap[gb140]? = some (.cells #[.int .i64 t134, .int .i64 t135, .int .i64 t136, .bool t137] 30 (0, 0))) := ⟨h2_⟩; have n3_ : Aside0 (w92.heap[gb148]? = some (.cells #[.int .i64 t142, .int .i64 t143, .int .i64 t144, .bool t145] 30 (0, 0))) := ⟨h3_⟩; have n4_ : Aside0 (w92.heap[gb158]? = some (.cells #[.int .i64 t153, .int .i64 t154, .int .i64 t155, .bool t156] 30 (0, 0))) := ⟨h4_⟩; have n5_ : Aside0 (w92.heap[gb177]? = some (.cells #[.int .i64 0, .int .i64 0, .int .i64 0, .bool false] 30 (0, 0))) := ⟨h5_⟩; have n6_ : Aside0 (w.heap.size ≤ gb177) := ⟨h6_⟩; have n7_ : Aside0 (w.heap.size ≤ gb177) := ⟨h7_⟩; have n8_ : Aside0 (gb131 ≠ gb177) := ⟨h8_⟩; have n9_ : Aside0 (gb177 ≠ gb131) := ⟨h9_⟩; have n10_ : Aside0 (gb140 ≠ gb177) := ⟨h10_⟩; have n11_ : Aside0 (gb177 ≠ gb140) := ⟨h11_⟩; have n12_ : Aside0 (gb148 ≠ gb177) := ⟨h12_⟩; have n13_ : Aside0 (gb177 ≠ gb148) := ⟨h13_⟩; have n14_ : Aside0 (gb158 ≠ gb177) := ⟨h14_⟩; have n15_ : Aside0 (gb177 ≠ gb158) := ⟨h15_⟩; have n16_ : Aside0 (Below w.heap.size w w92) := ⟨h16_⟩; clear BK131; clear BK140; clear BK148; clear BK158; clear HB; clear h0_ h1_ h2_ h3_ h4_ h5_ h6_ h7_ h8_ h9_ h10_ h11_ h12_ h13_ h14_ h15_ h16_; have HO161 := n0_; have BK131 := n1_
                           have BK140 := n2_; have BK148 := n3_; have BK158 := n4_; have BK177 := n5_; have GW177 := n6_; have GE177 := n7_; have NB131_177 := n8_; have NB177_131 := n9_; have NB140_177 := n10_; have NB177_140 := n11_; have NB148_177 := n12_; have NB177_148 := n13_; have NB158_177 := n14_; have NB177_158 := n15_; have HB := n16_; clear n0_ n1_ n2_ n3_ n4_ n5_ n6_ n7_ n8_ n9_ n10_ n11_ n12_ n13_ n14_ n15_ n16_; have hHeld : w92.cell? ⟨gb131, 0, none⟩ = some (.slice A0_0 l0_0.length c0_0) ∧ w92.cell? ⟨gb131, 1, none⟩ = some (.int .i64 a0_1) := hS_
                           refine norm_ (a' := ?_) ?_ ?_
                           rotate_left
                           ·simp only [putAll, Act.put, List.setIfInBounds_toArray, List.set_cons_zero, List.set_cons_succ]
                            rfl
                           refine two_ (i := 3) (j := 5) (Ni := some 140) (Nj := some 142) #[true, true, true, true, true, false, false, false, false, false, false, false, true, false, false, false] #[true, true, true, false, true, true, false, false, false, false, false, false, true, false, false, false] rfl rfl rfl rfl (two_of HT_.out (by kernel_rfl)) (by decide) (by decide) (fun K hK => ?_) (fun K hK => ?_)
                           ·skip
                            refine Kd.R_append_rows_step (Kd.int .i64) (w0 := w) w.heap.size (by rfl) (.tmp 138) (.tmp 139) 25 3 (.int .i64 0) 8 rfl Try.underlying25 info3 rfl (by decide) (by omega) v160 y159 l1 _ _ _ (fun _ => True) (fun _ => False) rfl rfl ?aO ?aR (fun _ _ h => h) (fun _ h => h.elim) ?aF ?aB ?aS ?aL ?_
                            (case aR => repeat (first | exact (Kd.C_below HR1.out HB.out) | (with_reducible refine Kd.C_alloc ?_ _) | (with_reducible refine Kd.C_drewN ?_ _) | (with_reducible refine Kd.C_drew ?_)))
                            (case aB => exact HB.out)
                            (case aF => exact (fun _ _ => trivial))
                            (case aO => exact HO161.out)
                            (case aS => exact (below_size HB.out))
                            (case aL => have := LMc69.out; omega)
                            intro v163 w93 ho hb hg hat
                            rw [← Ny162.out] at ho
                            have n0_ := Aside0.mk (blk_grown (g := gb131) (o := .cells #[.slice A0_0 l0_0.length c0_0, .int .i64 a0_1] 24 (0, 0)) BK131.out hg (Kd.R_ne HO161.out BK131.out (by decide))); have n1_ := Aside0.mk (blk_grown (g := gb140) (o := .cells #[.int .i64 t134, .int .i64 t135, .int .i64 t136, .bool t137] 30 (0, 0)) BK140.out hg (Kd.R_ne HO161.out BK140.out (by decide))); have n2_ := Aside0.mk (blk_grown (g := gb148) (o := .cells #[.int .i64 t142, .int .i64 t143, .int .i64 t144, .bool t145] 30 (0, 0)) BK148.out hg (Kd.R_ne HO161.out BK148.out (by decide))); have n3_ := Aside0.mk (blk_grown (g := gb158) (o := .cells #[.int .i64 t153, .int .i64 t154, .int .i64 t155, .bool t156] 30 (0, 0)) BK158.out hg (Kd.R_ne HO161.out BK158.out (by decide))); have n4_ := Aside0.mk (blk_grown (g := gb177) (o := .cells #[.int .i64 0, .int .i64 0, .int .i64 0, .bool false] 30 (0, 0)) BK177.out hg (Kd.R_ne HO161.out BK177.out (by decide))); have n5_ := Aside0.mk (hb); have n6_ := Aside0.mk (ho); clear BK131; clear BK140; clear BK148; clear BK158; clear BK177; clear HB; clear HO161; have BK131 := n0_; have BK140 := n1_; have BK148 := n2_; have BK158 := n3_; have BK177 := n4_; have HB := n5_; have HO164 := n6_; clear n0_ n1_ n2_ n3_ n4_ n5_ n6_; clear ho hb hg hat
                            refine hK.out _ _ ⟨(blk_cell BK131.out 0).trans rfl, (blk_cell BK131.out 1).trans rfl⟩ (fun hHeld => ?_)
                            clear hK K
                            refine norm_ (a' := ?_) ?_ ?_
                            rotate_left
                            ·show Act.put _ (some 140) _ = _
                             simp only [Act.put, List.setIfInBounds_toArray, List.set_cons_zero, List.set_cons_succ, i64_w, i32_w]
                             rfl
                            exact norm_ (by simp only [putAll, Act.put, List.setIfInBounds_toArray, List.set_cons_zero, List.set_cons_succ]) (hJ1_3_12 (v160, v163, gb177) _ ⟨hHeld, HO164.out, BK131.out, BK140.out, BK148.out, BK158.out, BK177.out, GW177.out, GE177.out, NB131_177.out, NB177_131.out, NB140_177.out, NB177_140.out, NB148_177.out, NB177_148.out, NB158_177.out, NB177_158.out, HB.out⟩)
                           ·skip
                            refine Kd.R_lit_step (Kd.int .i64) _ 3 ?hg (N := 142) ?hd (xs := ([a2] : List Int)) (inner := [.int .i64 a2]) (ok := fun _ => True) (okp := fun _ => True) ?hr ?hp (fun _ hk => hk) trivial (Below.refl _ _) (Nat.le_refl _) (by simp) ?_; (case hd => rfl); (case hg => rfl); (case hr => first | (go_simp; done) | (go_simp; rfl)); (case hp => exact (Reps.one (show Kd.M (Kd.int .i64) _ _ _ a2 [.int .i64 a2] from rfl) (Reps.none _ _)))
                            intro v166 w93 ho94 hb hg_ hnew_
                            clear hg_ hnew_
                            (first | rw [← Ny165.out] at ho94 | (simp only [Int.reduceToNat] at ho94; rw [← Ny165.out] at ho94))
                            have n0_ := Aside0.mk (Kd.R_elder' HO161.out (Kd.R_base ho94) hb); have n1_ := Aside0.mk (Kd.R_lower (Kd.R_new' ho94 (Kd.R_lt HO161.out)) (below_size HB.out)); have n2_ := Aside0.mk (blk_below BK131.out hb); have n3_ := Aside0.mk (blk_below BK140.out hb); have n4_ := Aside0.mk (blk_below BK148.out hb); have n5_ := Aside0.mk (blk_below BK158.out hb); have n6_ := Aside0.mk (blk_below BK177.out hb); have n7_ := Aside0.mk (below_step HB.out hb); clear HO161; clear BK131; clear BK140; clear BK148; clear BK158; clear BK177; clear HB; have HO161 := n0_; have HO167 := n1_; have BK131 := n2_; have BK140 := n3_; have BK148 := n4_; have BK158 := n5_; have BK177 := n6_; have HB := n7_; clear n0_ n1_ n2_ n3_ n4_ n5_ n6_ n7_; clear hb ho94
                            refine hK.out _ _ ⟨(blk_cell BK131.out 0).trans rfl, (blk_cell BK131.out 1).trans rfl⟩ (fun hHeld => ?_)
                            clear hK K
                            refine norm_ (a' := ?_) ?_ ?_
                            rotate_left
                            ·show Act.put _ (some 142) _ = _
                             simp only [Act.put, List.setIfInBounds_toArray, List.set_cons_zero, List.set_cons_succ, i64_w, i32_w]
                             rfl
                            exact norm_ (by simp only [putAll, Act.put, List.setIfInBounds_toArray, List.set_cons_zero, List.set_cons_succ]) (hJ1_5_12 (v160, v166, gb177) _ ⟨hHeld, (by (with_reducible repeat (first | apply Kd.R_alloc | apply Kd.R_drewN | apply Kd.R_drew)); exact Kd.R_mono HO161.out (fun _ hk => hk.2)), (by (with_reducible repeat (first | apply Kd.R_alloc | apply Kd.R_drewN | apply Kd.R_drew)); exact Kd.R_mono HO167.out (fun _ hk => hk.2)), BK131.out, BK140.out, BK148.out, BK158.out, BK177.out, GW177.out, GE177.out, NB131_177.out, NB177_131.out, NB140_177.out, NB177_140.out, NB148_177.out, NB177_148.out, NB158_177.out, NB177_158.out, HB.out⟩)
                         ·skip
                          rintro ⟨v160, v166⟩ w93 ⟨hS_, h0_, h1_, h2_, h3_, h4_, h5_, h6_⟩
                          have n0_ : Aside0 (Kd.R (Kd.int .i64) 3 w93 w.heap.size (fun k_ => some k_ ≠ (v166 : Value).ownBlock) v160 y159) := ⟨h0_⟩; have n1_ : Aside0 (Kd.R (Kd.int .i64) 3 w93 w.heap.size (fun k_ => some k_ ≠ (v160 : Value).ownBlock) v166 y165) := ⟨h1_⟩; have n2_ : Aside0 (w93.heap[gb131]? = some (.cells #[.slice A0_0 l0_0.length c0_0, .int .i64 a0_1] 24 (0, 0))) := ⟨h2_⟩; have n3_ : Aside0 (w93.heap[gb140]? = some (.cells #[.int .i64 t134, .int .i64 t135, .int .i64 t136, .bool t137] 30 (0, 0))) := ⟨h3_⟩; have n4_ : Aside0 (w93.heap[gb148]? = some (.cells #[.int .i64 t142, .int .i64 t143, .int .i64 t144, .bool t145] 30 (0, 0))) := ⟨h4_⟩; have n5_ : Aside0 (w93.heap[gb158]? = some (.cells #[.int .i64 t153, .int .i64 t154, .int .i64 t155, .bool t156] 30 (0, 0))) := ⟨h5_⟩; have n6_ : Aside0 (Below w.heap.size w w93) := ⟨h6_⟩; clear BK131; clear BK140; clear BK148; clear BK158; clear HB; clear h0_ h1_ h2_ h3_ h4_ h5_ h6_; have HO161 := n0_; have HO167 := n1_; have BK131 := n2_; have BK140 := n3_; have BK148 := n4_; have BK158 := n5_; have HB := n6_; clear n0_ n1_ n2_ n3_ n4_ n5_ n6_; have hHeld : w93.cell? ⟨gb131, 0, none⟩ = some (.slice A0_0 l0_0.length c0_0) ∧ w93.cell? ⟨gb131, 1, none⟩ = some (.int .i64 a0_1) := hS_
                          refine norm_ (a' := ?_) ?_ ?_
                          rotate_left
                          ·simp only [putAll, Act.put, List.setIfInBounds_toArray, List.set_cons_zero, List.set_cons_succ]
                           rfl
                          refine two_ (i := 3) (j := 12) (Ni := some 140) (Nj := some 22) #[true, true, true, true, true, true, false, false, false, false, false, false, false, false, false, false] #[true, true, true, false, true, true, false, false, false, false, false, false, true, false, false, false] rfl rfl rfl rfl (two_of HT_.out (by kernel_rfl)) (by decide) (by decide) (fun K hK => ?_) (fun K hK => ?_)
                          ·skip
                           refine Kd.R_append_rows_step (Kd.int .i64) (w0 := w) w.heap.size (by rfl) (.tmp 138) (.tmp 139) 25 3 (.int .i64 0) 8 rfl Try.underlying25 info3 rfl (by decide) (by omega) v160 y159 l1 _ _ _ (fun k_ => some k_ ≠ (v166 : Value).ownBlock) (fun _ => False) rfl rfl ?aO ?aR (fun _ _ h => h) (fun _ h => h.elim) ?aF ?aB ?aS ?aL ?_
                           (case aR => repeat (first | exact (Kd.C_below HR1.out HB.out) | (with_reducible refine Kd.C_alloc ?_ _) | (with_reducible refine Kd.C_drewN ?_ _) | (with_reducible refine Kd.C_drew ?_)))
                           (case aB => exact HB.out)
                           (case aF => exact (fun k_ hk => Kd.fresh' (Kd.R_lt HO167.out) k_ hk))
                           (case aO => exact HO161.out)
                           (case aS => exact (below_size HB.out))
                           (case aL => have := LMc69.out; omega)
                           intro v163 w94 ho hb hg hat
                           rw [← Ny162.out] at ho
                           have n0_ := Aside0.mk (blk_grown (g := gb131) (o := .cells #[.slice A0_0 l0_0.length c0_0, .int .i64 a0_1] 24 (0, 0)) BK131.out hg (Kd.R_ne HO161.out BK131.out (by decide))); have n1_ := Aside0.mk (blk_grown (g := gb140) (o := .cells #[.int .i64 t134, .int .i64 t135, .int .i64 t136, .bool t137] 30 (0, 0)) BK140.out hg (Kd.R_ne HO161.out BK140.out (by decide))); have n2_ := Aside0.mk (blk_grown (g := gb148) (o := .cells #[.int .i64 t142, .int .i64 t143, .int .i64 t144, .bool t145] 30 (0, 0)) BK148.out hg (Kd.R_ne HO161.out BK148.out (by decide))); have n3_ := Aside0.mk (blk_grown (g := gb158) (o := .cells #[.int .i64 t153, .int .i64 t154, .int .i64 t155, .bool t156] 30 (0, 0)) BK158.out hg (Kd.R_ne HO161.out BK158.out (by decide))); have n4_ := Aside0.mk (Kd.R_after (ok := (fun _ => True)) (by (with_reducible repeat (first | apply Kd.R_alloc | apply Kd.R_drewN | apply Kd.R_drew)); exact Kd.R_mono HO167.out (fun _ hk => ⟨trivial, hk⟩)) hg hat); have n5_ := Aside0.mk (hb); have n6_ := Aside0.mk (ho); clear BK131; clear BK140; clear BK148; clear BK158; clear HO167; clear HB; clear HO161; have BK131 := n0_; have BK140 := n1_; have BK148 := n2_; have BK158 := n3_; have HO167 := n4_; have HB := n5_; have HO164 := n6_; clear n0_ n1_ n2_ n3_ n4_ n5_ n6_; clear ho hb hg hat
                           refine hK.out _ _ ⟨(blk_cell BK131.out 0).trans rfl, (blk_cell BK131.out 1).trans rfl⟩ (fun hHeld => ?_)
                           clear hK K
                           refine norm_ (a' := ?_) ?_ ?_
                           rotate_left
                           ·show Act.put _ (some 140) _ = _
                            simp only [Act.put, List.setIfInBounds_toArray, List.set_cons_zero, List.set_cons_succ, i64_w, i32_w]
                            rfl
                           exact norm_ (by simp only [putAll, Act.put, List.setIfInBounds_toArray, List.set_cons_zero, List.set_cons_succ]) (hJ1_3_5 (v160, v163, v166) _ ⟨hHeld, HO164.out, (by (with_reducible repeat (first | apply Kd.R_alloc | apply Kd.R_drewN | apply Kd.R_drew)); exact Kd.R_mono HO167.out (fun _ hk => hk.2)), BK131.out, BK140.out, BK148.out, BK158.out, HB.out⟩)
                          ·skip
                           refine box_step ?hg (N := 22) ?hd (cs := #[.int .i64 0, .int .i64 0, .int .i64 0, .bool false]) (t := 30) ?hr ?_; (case hd => rfl); (case hg => rfl); (case hr => first | (go_simp; done) | (go_simp; rfl))
                           intro gb177 hg w94 hbox hb
                           have n0_ := Aside0.mk (Kd.R_below HO161.out hb); have n1_ := Aside0.mk (Kd.R_below HO167.out hb); have n2_ := Aside0.mk (blk_below BK131.out hb); have n3_ := Aside0.mk (blk_below BK140.out hb); have n4_ := Aside0.mk (blk_below BK148.out hb); have n5_ := Aside0.mk (blk_below BK158.out hb); have n6_ := Aside0.mk (below_step HB.out hb); have n7_ := Aside0.mk (hbox); have n8_ := Aside0.mk ((by rw [hg]; exact (below_size HB.out) : w.heap.size ≤ gb177)); have n9_ := Aside0.mk ((by rw [hg]; exact (below_size HB.out) : w.heap.size ≤ gb177)); have n10_ := Aside0.mk ((by rw [hg]; exact Nat.ne_of_lt (blk_lt BK131.out) : gb131 ≠ gb177)); have n11_ := Aside0.mk ((by rw [hg]; exact Nat.ne_of_gt (blk_lt BK131.out) : gb177 ≠ gb131)); have n12_ := Aside0.mk ((by rw [hg]; exact Nat.ne_of_lt (blk_lt BK140.out) : gb140 ≠ gb177)); have n13_ := Aside0.mk ((by rw [hg]; exact Nat.ne_of_gt (blk_lt BK140.out) : gb177 ≠ gb140)); have n14_ := Aside0.mk ((by rw [hg]; exact Nat.ne_of_lt (blk_lt BK148.out) : gb148 ≠ gb177)); have n15_ := Aside0.mk ((by rw [hg]; exact Nat.ne_of_gt (blk_lt BK148.out) : gb177 ≠ gb148)); have n16_ := Aside0.mk ((by rw [hg]; exact Nat.ne_of_lt (blk_lt BK158.out) : gb158 ≠ gb177)); have n17_ := Aside0.mk ((by rw [hg]; exact Nat.ne_of_gt (blk_lt BK158.out) : gb177 ≠ gb158)); clear HO161; clear HO167; clear BK131; clear BK140; clear BK148; clear BK158; clear HB; have HO161 := n0_; have HO167 := n1_; have BK131 := n2_; have BK140 := n3_
                           have BK148 := n4_; have BK158 := n5_; have HB := n6_; have BK177 := n7_; have GW177 := n8_; have GE177 := n9_; have NB131_177 := n10_; have NB177_131 := n11_; have NB140_177 := n12_; have NB177_140 := n13_; have NB148_177 := n14_; have NB177_148 := n15_; have NB158_177 := n16_; have NB177_158 := n17_; clear n0_ n1_ n2_ n3_ n4_ n5_ n6_ n7_ n8_ n9_ n10_ n11_ n12_ n13_ n14_ n15_ n16_ n17_; clear hb hbox hg
                           refine hK.out _ _ ⟨(blk_cell BK131.out 0).trans rfl, (blk_cell BK131.out 1).trans rfl⟩ (fun hHeld => ?_)
                           clear hK K
                           refine norm_ (a' := ?_) ?_ ?_
                           rotate_left
                           ·show Act.put _ (some 22) _ = _
                            simp only [Act.put, List.setIfInBounds_toArray, List.set_cons_zero, List.set_cons_succ, i64_w, i32_w]
                            rfl
                           exact norm_ (by simp only [putAll, Act.put, List.setIfInBounds_toArray, List.set_cons_zero, List.set_cons_succ]) (hJ1_5_12 (v160, v166, gb177) _ ⟨hHeld, HO161.out, HO167.out, BK131.out, BK140.out, BK148.out, BK158.out, BK177.out, GW177.out, GE177.out, NB131_177.out, NB177_131.out, NB140_177.out, NB177_140.out, NB148_177.out, NB177_148.out, NB158_177.out, NB177_158.out, HB.out⟩)
                        ·skip
                         rintro ⟨v160, v163⟩ w92 ⟨hS_, h0_, h1_, h2_, h3_, h4_, h5_⟩
                         have n0_ : Aside0 (Kd.R (Kd.int .i64) 3 w92 w.heap.size (fun _ => True) v163 y162) := ⟨h0_⟩; have n1_ : Aside0 (w92.heap[gb131]? = some (.cells #[.slice A0_0 l0_0.length c0_0, .int .i64 a0_1] 24 (0, 0))) := ⟨h1_⟩; have n2_ : Aside0 (w92.heap[gb140]? = some (.cells #[.int .i64 t134, .int .i64 t135, .int .i64 t136, .bool t137] 30 (0, 0))) := ⟨h2_⟩; have n3_ : Aside0 (w92.heap[gb148]? = some (.cells #[.int .i64 t142, .int .i64 t143, .int .i64 t144, .bool t145] 30 (0, 0))) := ⟨h3_⟩; have n4_ : Aside0 (w92.heap[gb158]? = some (.cells #[.int .i64 t153, .int .i64 t154, .int .i64 t155, .bool t156] 30 (0, 0))) := ⟨h4_⟩; have n5_ : Aside0 (Below w.heap.size w w92) := ⟨h5_⟩; clear BK131; clear BK140; clear BK148; clear BK158; clear HB; clear h0_ h1_ h2_ h3_ h4_ h5_; have HO164 := n0_; have BK131 := n1_; have BK140 := n2_; have BK148 := n3_; have BK158 := n4_; have HB := n5_; clear n0_ n1_ n2_ n3_ n4_ n5_; have hHeld : w92.cell? ⟨gb131, 0, none⟩ = some (.slice A0_0 l0_0.length c0_0) ∧ w92.cell? ⟨gb131, 1, none⟩ = some (.int .i64 a0_1) := hS_
                         refine norm_ (a' := ?_) ?_ ?_
                         rotate_left
                         ·simp only [putAll, Act.put, List.setIfInBounds_toArray, List.set_cons_zero, List.set_cons_succ]
                          rfl
                         refine two_ (i := 5) (j := 12) (Ni := some 142) (Nj := some 22) #[true, true, true, true, true, true, false, false, false, false, false, false, false, false, false, false] #[true, true, true, true, true, false, false, false, false, false, false, false, true, false, false, false] rfl rfl rfl rfl (two_of HT_.out (by kernel_rfl)) (by decide) (by decide) (fun K hK => ?_) (fun K hK => ?_)
                         ·skip
                          refine Kd.R_lit_step (Kd.int .i64) _ 3 ?hg (N := 142) ?hd (xs := ([a2] : List Int)) (inner := [.int .i64 a2]) (ok := fun _ => True) (okp := fun _ => True) ?hr ?hp (fun _ hk => hk) trivial (Below.refl _ _) (Nat.le_refl _) (by simp) ?_; (case hd => rfl); (case hg => rfl); (case hr => first | (go_simp; done) | (go_simp; rfl)); (case hp => exact (Reps.one (show Kd.M (Kd.int .i64) _ _ _ a2 [.int .i64 a2] from rfl) (Reps.none _ _)))
                          intro v166 w93 ho94 hb hg_ hnew_
                          clear hg_ hnew_
                          (first | rw [← Ny165.out] at ho94 | (simp only [Int.reduceToNat] at ho94; rw [← Ny165.out] at ho94))
                          have n0_ := Aside0.mk (Kd.R_elder' HO164.out (Kd.R_base ho94) hb); have n1_ := Aside0.mk (Kd.R_lower (Kd.R_new' ho94 (Kd.R_lt HO164.out)) (below_size HB.out)); have n2_ := Aside0.mk (blk_below BK131.out hb); have n3_ := Aside0.mk (blk_below BK140.out hb); have n4_ := Aside0.mk (blk_below BK148.out hb); have n5_ := Aside0.mk (blk_below BK158.out hb); have n6_ := Aside0.mk (below_step HB.out hb); clear HO164; clear BK131; clear BK140; clear BK148; clear BK158; clear HB; have HO164 := n0_; have HO167 := n1_; have BK131 := n2_; have BK140 := n3_; have BK148 := n4_; have BK158 := n5_; have HB := n6_; clear n0_ n1_ n2_ n3_ n4_ n5_ n6_; clear hb ho94
                          refine hK.out _ _ ⟨(blk_cell BK131.out 0).trans rfl, (blk_cell BK131.out 1).trans rfl⟩ (fun hHeld => ?_)
                          clear hK K
                          refine norm_ (a' := ?_) ?_ ?_
                          rotate_left
                          ·show Act.put _ (some 142) _ = _
                           simp only [Act.put, List.setIfInBounds_toArray, List.set_cons_zero, List.set_cons_succ, i64_w, i32_w]
                           rfl
                          exact norm_ (by simp only [putAll, Act.put, List.setIfInBounds_toArray, List.set_cons_zero, List.set_cons_succ]) (hJ1_3_5 (v160, v163, v166) _ ⟨hHeld, (by (with_reducible repeat (first | apply Kd.R_alloc | apply Kd.R_drewN | apply Kd.R_drew)); exact Kd.R_mono HO164.out (fun _ hk => hk.2)), (by (with_reducible repeat (first | apply Kd.R_alloc | apply Kd.R_drewN | apply Kd.R_drew)); exact Kd.R_mono HO167.out (fun _ hk => hk.2)), BK131.out, BK140.out, BK148.out, BK158.out, HB.out⟩)
                         ·skip
                          refine box_step ?hg (N := 22) ?hd (cs := #[.int .i64 0, .int .i64 0, .int .i64 0, .bool false]) (t := 30) ?hr ?_; (case hd => rfl); (case hg => rfl); (case hr => first | (go_simp; done) | (go_simp; rfl))
                          intro gb177 hg w93 hbox hb
                          have n0_ := Aside0.mk (Kd.R_below HO164.out hb); have n1_ := Aside0.mk (blk_below BK131.out hb); have n2_ := Aside0.mk (blk_below BK140.out hb); have n3_ := Aside0.mk (blk_below BK148.out hb); have n4_ := Aside0.mk (blk_below BK158.out hb); have n5_ := Aside0.mk (below_step HB.out hb); have n6_ := Aside0.mk (hbox); have n7_ := Aside0.mk ((by rw [hg]; exact (below_size HB.out) : w.heap.size ≤ gb177)); have n8_ := Aside0.mk ((by rw [hg]; exact (below_size HB.out) : w.heap.size ≤ gb177)); have n9_ := Aside0.mk ((by rw [hg]; exact Nat.ne_of_lt (blk_lt BK131.out) : gb131 ≠ gb177)); have n10_ := Aside0.mk ((by rw [hg]; exact Nat.ne_of_gt (blk_lt BK131.out) : gb177 ≠ gb131)); have n11_ := Aside0.mk ((by rw [hg]; exact Nat.ne_of_lt (blk_lt BK140.out) : gb140 ≠ gb177)); have n12_ := Aside0.mk ((by rw [hg]; exact Nat.ne_of_gt (blk_lt BK140.out) : gb177 ≠ gb140)); have n13_ := Aside0.mk ((by rw [hg]; exact Nat.ne_of_lt (blk_lt BK148.out) : gb148 ≠ gb177)); have n14_ := Aside0.mk ((by rw [hg]; exact Nat.ne_of_gt (blk_lt BK148.out) : gb177 ≠ gb148)); have n15_ := Aside0.mk ((by rw [hg]; exact Nat.ne_of_lt (blk_lt BK158.out) : gb158 ≠ gb177)); have n16_ := Aside0.mk ((by rw [hg]; exact Nat.ne_of_gt (blk_lt BK158.out) : gb177 ≠ gb158)); clear HO164; clear BK131; clear BK140; clear BK148; clear BK158; clear HB; have HO164 := n0_; have BK131 := n1_; have BK140 := n2_; have BK148 := n3_; have BK158 := n4_; have HB := n5_; have BK177 := n6_; have GW177 := n7_
                          have GE177 := n8_; have NB131_177 := n9_; have NB177_131 := n10_; have NB140_177 := n11_; have NB177_140 := n12_; have NB148_177 := n13_; have NB177_148 := n14_; have NB158_177 := n15_; have NB177_158 := n16_; clear n0_ n1_ n2_ n3_ n4_ n5_ n6_ n7_ n8_ n9_ n10_ n11_ n12_ n13_ n14_ n15_ n16_; clear hb hbox hg
                          refine hK.out _ _ ⟨(blk_cell BK131.out 0).trans rfl, (blk_cell BK131.out 1).trans rfl⟩ (fun hHeld => ?_)
                          clear hK K
                          refine norm_ (a' := ?_) ?_ ?_
                          rotate_left
                          ·show Act.put _ (some 22) _ = _
                           simp only [Act.put, List.setIfInBounds_toArray, List.set_cons_zero, List.set_cons_succ, i64_w, i32_w]
                           rfl
                          exact norm_ (by simp only [putAll, Act.put, List.setIfInBounds_toArray, List.set_cons_zero, List.set_cons_succ]) (hJ1_3_12 (v160, v163, gb177) _ ⟨hHeld, HO164.out, BK131.out, BK140.out, BK148.out, BK158.out, BK177.out, GW177.out, GE177.out, NB131_177.out, NB177_131.out, NB140_177.out, NB177_140.out, NB148_177.out, NB177_148.out, NB158_177.out, NB177_158.out, HB.out⟩)
                       ·skip
                        rintro ⟨v160, v166, gb177⟩ w94 ⟨hS_, h0_, h1_, h2_, h3_, h4_, h5_, h6_, h7_, h8_, h9_, h10_, h11_, h12_, h13_, h14_, h15_, h16_, h17_⟩
                        have n0_ : Aside0 (Kd.R (Kd.int .i64) 3 w94 w.heap.size (fun k_ => some k_ ≠ (v166 : Value).ownBlock) v160 y159) := ⟨h0_⟩; have n1_ : Aside0 (Kd.R (Kd.int .i64) 3 w94 w.heap.size (fun k_ => some k_ ≠ (v160 : Value).ownBlock) v166 y165) := ⟨h1_⟩; have n2_ : Aside0 (w94.heap[gb131]? = some (.cells #[.slice A0_0 l0_0.length c0_0, .int .i64 a0_1] 24 (0, 0))) := ⟨h2_⟩; have n3_ : Aside0 (w94.heap[gb140]? = some (.cells #[.int .i64 t134, .int .i64 t135, .int .i64 t136, .bool t137] 30 (0, 0))) := ⟨h3_⟩; have n4_ : Aside0 (w94.heap[gb148]? = some (.cells #[.int .i64 t142, .int .i64 t143, .int .i64 t144, .bool t145] 30 (0, 0))) := ⟨h4_⟩; have n5_ : Aside0 (w94.heap[gb158]? = some (.cells #[.int .i64 t153, .int .i64 t154, .int .i64 t155, .bool t156] 30 (0, 0))) := ⟨h5_⟩; have n6_ : Aside0 (w94.heap[gb177]? = some (.cells #[.int .i64 0, .int .i64 0, .int .i64 0, .bool false] 30 (0, 0))) := ⟨h6_⟩; have n7_ : Aside0 (w.heap.size ≤ gb177) := ⟨h7_⟩; have n8_ : Aside0 (w.heap.size ≤ gb177) := ⟨h8_⟩; have n9_ : Aside0 (gb131 ≠ gb177) := ⟨h9_⟩; have n10_ : Aside0 (gb177 ≠ gb131) := ⟨h10_⟩; have n11_ : Aside0 (gb140 ≠ gb177) := ⟨h11_⟩; have n12_ : Aside0 (gb177 ≠ gb140) := ⟨h12_⟩; have n13_ : Aside0 (gb148 ≠ gb177) := ⟨h13_⟩; have n14_ : Aside0 (gb177 ≠ gb148) := ⟨h14_⟩; have n15_ : Aside0 (gb158 ≠ gb177) := ⟨h15_⟩; have n16_ : Aside0 (gb177 ≠ gb158) := ⟨h16_⟩; have n17_ : Aside0 (Below w.heap.size w w94) := ⟨h17_⟩; clear BK131; clear BK140; clear BK148
                        clear BK158; clear HB; clear h0_ h1_ h2_ h3_ h4_ h5_ h6_ h7_ h8_ h9_ h10_ h11_ h12_ h13_ h14_ h15_ h16_ h17_; have HO161 := n0_; have HO167 := n1_; have BK131 := n2_; have BK140 := n3_; have BK148 := n4_; have BK158 := n5_; have BK177 := n6_; have GW177 := n7_; have GE177 := n8_; have NB131_177 := n9_; have NB177_131 := n10_; have NB140_177 := n11_; have NB177_140 := n12_; have NB148_177 := n13_; have NB177_148 := n14_; have NB158_177 := n15_; have NB177_158 := n16_; have HB := n17_; clear n0_ n1_ n2_ n3_ n4_ n5_ n6_ n7_ n8_ n9_ n10_ n11_ n12_ n13_ n14_ n15_ n16_ n17_; have hHeld : w94.cell? ⟨gb131, 0, none⟩ = some (.slice A0_0 l0_0.length c0_0) ∧ w94.cell? ⟨gb131, 1, none⟩ = some (.int .i64 a0_1) := hS_
                        refine norm_ (a' := ?_) ?_ ?_
                        rotate_left
                        ·simp only [putAll, Act.put, List.setIfInBounds_toArray, List.set_cons_zero, List.set_cons_succ]
                         rfl
                        refine one_ (i := 3) (N := some 140) #[true, true, true, true, true, true, false, false, false, false, false, false, true, false, false, false] rfl rfl (one_of HT_.out (by kernel_rfl)) (by decide) (fun K hK => ?_)
                        refine Kd.R_append_rows_step (Kd.int .i64) (w0 := w) w.heap.size (by rfl) (.tmp 138) (.tmp 139) 25 3 (.int .i64 0) 8 rfl Try.underlying25 info3 rfl (by decide) (by omega) v160 y159 l1 _ _ _ (fun k_ => some k_ ≠ (v166 : Value).ownBlock) (fun _ => False) rfl rfl ?aO ?aR (fun _ _ h => h) (fun _ h => h.elim) ?aF ?aB ?aS ?aL ?_
                        (case aR => repeat (first | exact (Kd.C_below HR1.out HB.out) | (with_reducible refine Kd.C_alloc ?_ _) | (with_reducible refine Kd.C_drewN ?_ _) | (with_reducible refine Kd.C_drew ?_)))
                        (case aB => exact HB.out)
                        (case aF => exact (fun k_ hk => Kd.fresh' (Kd.R_lt HO167.out) k_ hk))
                        (case aO => exact HO161.out)
                        (case aS => exact (below_size HB.out))
                        (case aL => have := LMc69.out; omega)
                        intro v163 w95 ho hb hg hat
                        rw [← Ny162.out] at ho
                        have n0_ := Aside0.mk (blk_grown (g := gb131) (o := .cells #[.slice A0_0 l0_0.length c0_0, .int .i64 a0_1] 24 (0, 0)) BK131.out hg (Kd.R_ne HO161.out BK131.out (by decide))); have n1_ := Aside0.mk (blk_grown (g := gb140) (o := .cells #[.int .i64 t134, .int .i64 t135, .int .i64 t136, .bool t137] 30 (0, 0)) BK140.out hg (Kd.R_ne HO161.out BK140.out (by decide))); have n2_ := Aside0.mk (blk_grown (g := gb148) (o := .cells #[.int .i64 t142, .int .i64 t143, .int .i64 t144, .bool t145] 30 (0, 0)) BK148.out hg (Kd.R_ne HO161.out BK148.out (by decide))); have n3_ := Aside0.mk (blk_grown (g := gb158) (o := .cells #[.int .i64 t153, .int .i64 t154, .int .i64 t155, .bool t156] 30 (0, 0)) BK158.out hg (Kd.R_ne HO161.out BK158.out (by decide))); have n4_ := Aside0.mk (Kd.R_after (ok := (fun _ => True)) (by (with_reducible repeat (first | apply Kd.R_alloc | apply Kd.R_drewN | apply Kd.R_drew)); exact Kd.R_mono HO167.out (fun _ hk => ⟨trivial, hk⟩)) hg hat); have n5_ := Aside0.mk (blk_grown (g := gb177) (o := .cells #[.int .i64 0, .int .i64 0, .int .i64 0, .bool false] 30 (0, 0)) BK177.out hg (Kd.R_ne HO161.out BK177.out (by decide))); have n6_ := Aside0.mk (hb); have n7_ := Aside0.mk (ho); clear BK131; clear BK140; clear BK148; clear BK158; clear HO167; clear BK177; clear HB; clear HO161; have BK131 := n0_; have BK140 := n1_; have BK148 := n2_; have BK158 := n3_; have HO167 := n4_; have BK177 := n5_; have HB := n6_; have HO164 := n7_; clear n0_ n1_ n2_ n3_ n4_ n5_ n6_ n7_
                        clear ho hb hg hat
                        refine hK.out _ _ ⟨(blk_cell BK131.out 0).trans rfl, (blk_cell BK131.out 1).trans rfl⟩ (fun hHeld => ?_)
                        clear hK K
                        refine norm_ (a' := ?_) ?_ ?_
                        rotate_left
                        ·show Act.put _ (some 140) _ = _
                         simp only [Act.put, List.setIfInBounds_toArray, List.set_cons_zero, List.set_cons_succ, i64_w, i32_w]
                         rfl
                        exact norm_ (by simp only [putAll, Act.put, List.setIfInBounds_toArray, List.set_cons_zero, List.set_cons_succ]) (hJ1_3_5_12 (v160, v163, v166, gb177) _ ⟨hHeld, HO164.out, (by (with_reducible repeat (first | apply Kd.R_alloc | apply Kd.R_drewN | apply Kd.R_drew)); exact Kd.R_mono HO167.out (fun _ hk => hk.2)), BK131.out, BK140.out, BK148.out, BK158.out, BK177.out, GW177.out, GE177.out, NB131_177.out, NB177_131.out, NB140_177.out, NB177_140.out, NB148_177.out, NB177_148.out, NB158_177.out, NB177_158.out, HB.out⟩)
                      ·skip
                       rintro ⟨v160, v163, gb177⟩ w93 ⟨hS_, h0_, h1_, h2_, h3_, h4_, h5_, h6_, h7_, h8_, h9_, h10_, h11_, h12_, h13_, h14_, h15_, h16_⟩
                       have n0_ : Aside0 (Kd.R (Kd.int .i64) 3 w93 w.heap.size (fun _ => True) v163 y162) := ⟨h0_⟩; have n1_ : Aside0 (w93.heap[gb131]? = some (.cells #[.slice A0_0 l0_0.length c0_0, .int .i64 a0_1] 24 (0, 0))) := ⟨h1_⟩; have n2_ : Aside0 (w93.heap[gb140]? = some (.cells #[.int .i64 t134, .int .i64 t135, .int .i64 t136, .bool t137] 30 (0, 0))) := ⟨h2_⟩; have n3_ : Aside0 (w93.heap[gb148]? = some (.cells #[.int .i64 t142, .int .i64 t143, .int .i64 t144, .bool t145] 30 (0, 0))) := ⟨h3_⟩; have n4_ : Aside0 (w93.heap[gb158]? = some (.cells #[.int .i64 t153, .int .i64 t154, .int .i64 t155, .bool t156] 30 (0, 0))) := ⟨h4_⟩; have n5_ : Aside0 (w93.heap[gb177]? = some (.cells #[.int .i64 0, .int .i64 0, .int .i64 0, .bool false] 30 (0, 0))) := ⟨h5_⟩; have n6_ : Aside0 (w.heap.size ≤ gb177) := ⟨h6_⟩; have n7_ : Aside0 (w.heap.size ≤ gb177) := ⟨h7_⟩; have n8_ : Aside0 (gb131 ≠ gb177) := ⟨h8_⟩; have n9_ : Aside0 (gb177 ≠ gb131) := ⟨h9_⟩; have n10_ : Aside0 (gb140 ≠ gb177) := ⟨h10_⟩; have n11_ : Aside0 (gb177 ≠ gb140) := ⟨h11_⟩; have n12_ : Aside0 (gb148 ≠ gb177) := ⟨h12_⟩; have n13_ : Aside0 (gb177 ≠ gb148) := ⟨h13_⟩; have n14_ : Aside0 (gb158 ≠ gb177) := ⟨h14_⟩; have n15_ : Aside0 (gb177 ≠ gb158) := ⟨h15_⟩; have n16_ : Aside0 (Below w.heap.size w w93) := ⟨h16_⟩; clear BK131; clear BK140; clear BK148; clear BK158; clear HB; clear h0_ h1_ h2_ h3_ h4_ h5_ h6_ h7_ h8_ h9_ h10_ h11_ h12_ h13_ h14_ h15_ h16_; have HO164 := n0_; have BK131 := n1_; have BK140 := n2_
                       have BK148 := n3_; have BK158 := n4_; have BK177 := n5_; have GW177 := n6_; have GE177 := n7_; have NB131_177 := n8_; have NB177_131 := n9_; have NB140_177 := n10_; have NB177_140 := n11_; have NB148_177 := n12_; have NB177_148 := n13_; have NB158_177 := n14_; have NB177_158 := n15_; have HB := n16_; clear n0_ n1_ n2_ n3_ n4_ n5_ n6_ n7_ n8_ n9_ n10_ n11_ n12_ n13_ n14_ n15_ n16_; have hHeld : w93.cell? ⟨gb131, 0, none⟩ = some (.slice A0_0 l0_0.length c0_0) ∧ w93.cell? ⟨gb131, 1, none⟩ = some (.int .i64 a0_1) := hS_
                       refine norm_ (a' := ?_) ?_ ?_
                       rotate_left
                       ·simp only [putAll, Act.put, List.setIfInBounds_toArray, List.set_cons_zero, List.set_cons_succ]
                        rfl
                       refine one_ (i := 5) (N := some 142) #[true, true, true, true, true, true, false, false, false, false, false, false, true, false, false, false] rfl rfl (one_of HT_.out (by kernel_rfl)) (by decide) (fun K hK => ?_)
                       refine Kd.R_lit_step (Kd.int .i64) _ 3 ?hg (N := 142) ?hd (xs := ([a2] : List Int)) (inner := [.int .i64 a2]) (ok := fun _ => True) (okp := fun _ => True) ?hr ?hp (fun _ hk => hk) trivial (Below.refl _ _) (Nat.le_refl _) (by simp) ?_; (case hd => rfl); (case hg => rfl); (case hr => first | (go_simp; done) | (go_simp; rfl)); (case hp => exact (Reps.one (show Kd.M (Kd.int .i64) _ _ _ a2 [.int .i64 a2] from rfl) (Reps.none _ _)))
                       intro v166 w94 ho95 hb hg_ hnew_
                       clear hg_ hnew_
                       (first | rw [← Ny165.out] at ho95 | (simp only [Int.reduceToNat] at ho95; rw [← Ny165.out] at ho95))
                       have n0_ := Aside0.mk (Kd.R_elder' HO164.out (Kd.R_base ho95) hb); have n1_ := Aside0.mk (Kd.R_lower (Kd.R_new' ho95 (Kd.R_lt HO164.out)) (below_size HB.out)); have n2_ := Aside0.mk (blk_below BK131.out hb); have n3_ := Aside0.mk (blk_below BK140.out hb); have n4_ := Aside0.mk (blk_below BK148.out hb); have n5_ := Aside0.mk (blk_below BK158.out hb); have n6_ := Aside0.mk (blk_below BK177.out hb); have n7_ := Aside0.mk (below_step HB.out hb); clear HO164; clear BK131; clear BK140; clear BK148; clear BK158; clear BK177; clear HB; have HO164 := n0_; have HO167 := n1_; have BK131 := n2_; have BK140 := n3_; have BK148 := n4_; have BK158 := n5_; have BK177 := n6_; have HB := n7_; clear n0_ n1_ n2_ n3_ n4_ n5_ n6_ n7_; clear hb ho95
                       refine hK.out _ _ ⟨(blk_cell BK131.out 0).trans rfl, (blk_cell BK131.out 1).trans rfl⟩ (fun hHeld => ?_)
                       clear hK K
                       refine norm_ (a' := ?_) ?_ ?_
                       rotate_left
                       ·show Act.put _ (some 142) _ = _
                        simp only [Act.put, List.setIfInBounds_toArray, List.set_cons_zero, List.set_cons_succ, i64_w, i32_w]
                        rfl
                       exact norm_ (by simp only [putAll, Act.put, List.setIfInBounds_toArray, List.set_cons_zero, List.set_cons_succ]) (hJ1_3_5_12 (v160, v163, v166, gb177) _ ⟨hHeld, (by (with_reducible repeat (first | apply Kd.R_alloc | apply Kd.R_drewN | apply Kd.R_drew)); exact Kd.R_mono HO164.out (fun _ hk => hk.2)), (by (with_reducible repeat (first | apply Kd.R_alloc | apply Kd.R_drewN | apply Kd.R_drew)); exact Kd.R_mono HO167.out (fun _ hk => hk.2)), BK131.out, BK140.out, BK148.out, BK158.out, BK177.out, GW177.out, GE177.out, NB131_177.out, NB177_131.out, NB140_177.out, NB177_140.out, NB148_177.out, NB177_148.out, NB158_177.out, NB177_158.out, HB.out⟩)
                     ·skip
                      rintro ⟨v160, v163, v166⟩ w94 ⟨hS_, h0_, h1_, h2_, h3_, h4_, h5_, h6_⟩
                      have n0_ : Aside0 (Kd.R (Kd.int .i64) 3 w94 w.heap.size (fun k_ => some k_ ≠ (v166 : Value).ownBlock) v163 y162) := ⟨h0_⟩; have n1_ : Aside0 (Kd.R (Kd.int .i64) 3 w94 w.heap.size (fun k_ => some k_ ≠ (v163 : Value).ownBlock) v166 y165) := ⟨h1_⟩; have n2_ : Aside0 (w94.heap[gb131]? = some (.cells #[.slice A0_0 l0_0.length c0_0, .int .i64 a0_1] 24 (0, 0))) := ⟨h2_⟩; have n3_ : Aside0 (w94.heap[gb140]? = some (.cells #[.int .i64 t134, .int .i64 t135, .int .i64 t136, .bool t137] 30 (0, 0))) := ⟨h3_⟩; have n4_ : Aside0 (w94.heap[gb148]? = some (.cells #[.int .i64 t142, .int .i64 t143, .int .i64 t144, .bool t145] 30 (0, 0))) := ⟨h4_⟩; have n5_ : Aside0 (w94.heap[gb158]? = some (.cells #[.int .i64 t153, .int .i64 t154, .int .i64 t155, .bool t156] 30 (0, 0))) := ⟨h5_⟩; have n6_ : Aside0 (Below w.heap.size w w94) := ⟨h6_⟩; clear BK131; clear BK140; clear BK148; clear BK158; clear HB; clear h0_ h1_ h2_ h3_ h4_ h5_ h6_; have HO164 := n0_; have HO167 := n1_; have BK131 := n2_; have BK140 := n3_; have BK148 := n4_; have BK158 := n5_; have HB := n6_; clear n0_ n1_ n2_ n3_ n4_ n5_ n6_; have hHeld : w94.cell? ⟨gb131, 0, none⟩ = some (.slice A0_0 l0_0.length c0_0) ∧ w94.cell? ⟨gb131, 1, none⟩ = some (.int .i64 a0_1) := hS_
                      obtain ⟨Ao96, co96, eo96⟩ := Kd.R_slice HO167.out
                      (first | subst eo96 | (injection eo96 with f1_ f2_ f3_; have f4_ := f1_.symm; have f5_ := f3_.symm; clear f1_ f2_ f3_; subst f4_; subst f5_))
                      refine norm_ (a' := ?_) ?_ ?_
                      rotate_left
                      ·simp only [putAll, Act.put, List.setIfInBounds_toArray, List.set_cons_zero, List.set_cons_succ]
                       rfl
                      refine two_ (i := 6) (j := 12) (Ni := some 143) (Nj := some 22) #[true, true, true, true, true, true, true, false, false, false, false, false, false, false, false, false] #[true, true, true, true, true, true, false, false, false, false, false, false, true, false, false, false] rfl rfl rfl rfl (two_of HT_.out (by kernel_rfl)) (by decide) (by decide) (fun K hK => ?_) (fun K hK => ?_)
                      ·skip
                       refine Kd.R_append_rows_step (Kd.int .i64) (w0 := w) w.heap.size (by rfl) (.tmp 140) (.tmp 142) 25 3 (.int .i64 0) 8 rfl Try.underlying25 info3 rfl (by decide) (by omega) v163 y162 y165 _ _ _ (fun k_ => some k_ ≠ (.slice Ao96 y165.length co96 : Value).ownBlock) (fun _ => False) rfl rfl ?aO ?aR (fun _ _ h => h) (fun _ h => h.elim) ?aF ?aB ?aS ?aL ?_
                       (case aR => repeat (first | exact (Kd.R_reads' HO167.out).2.2 | (with_reducible refine Kd.C_alloc ?_ _) | (with_reducible refine Kd.C_drewN ?_ _) | (with_reducible refine Kd.C_drew ?_)))
                       (case aB => exact HB.out)
                       (case aF => exact (fun k_ hk => Kd.fresh' (Kd.R_lt HO167.out) k_ hk))
                       (case aO => exact HO164.out)
                       (case aS => exact (below_size HB.out))
                       (case aL => have := LMc70.out; omega)
                       intro v169 w95 ho hb hg hat
                       rw [← Ny168.out] at ho
                       have n0_ := Aside0.mk (blk_grown (g := gb131) (o := .cells #[.slice A0_0 l0_0.length c0_0, .int .i64 a0_1] 24 (0, 0)) BK131.out hg (Kd.R_ne HO164.out BK131.out (by decide))); have n1_ := Aside0.mk (blk_grown (g := gb140) (o := .cells #[.int .i64 t134, .int .i64 t135, .int .i64 t136, .bool t137] 30 (0, 0)) BK140.out hg (Kd.R_ne HO164.out BK140.out (by decide))); have n2_ := Aside0.mk (blk_grown (g := gb148) (o := .cells #[.int .i64 t142, .int .i64 t143, .int .i64 t144, .bool t145] 30 (0, 0)) BK148.out hg (Kd.R_ne HO164.out BK148.out (by decide))); have n3_ := Aside0.mk (blk_grown (g := gb158) (o := .cells #[.int .i64 t153, .int .i64 t154, .int .i64 t155, .bool t156] 30 (0, 0)) BK158.out hg (Kd.R_ne HO164.out BK158.out (by decide))); have n4_ := Aside0.mk (Kd.R_after (ok := (fun _ => True)) (by (with_reducible repeat (first | apply Kd.R_alloc | apply Kd.R_drewN | apply Kd.R_drew)); exact Kd.R_mono HO167.out (fun _ hk => ⟨trivial, hk⟩)) hg hat); have n5_ := Aside0.mk (hb); have n6_ := Aside0.mk (ho); clear BK131; clear BK140; clear BK148; clear BK158; clear HO167; clear HB; clear HO164; have BK131 := n0_; have BK140 := n1_; have BK148 := n2_; have BK158 := n3_; have HO167 := n4_; have HB := n5_; have HO170 := n6_; clear n0_ n1_ n2_ n3_ n4_ n5_ n6_; clear ho hb hg hat
                       refine hK.out _ _ ⟨(blk_cell BK131.out 0).trans rfl, (blk_cell BK131.out 1).trans rfl⟩ (fun hHeld => ?_)
                       clear hK K
                       refine norm_ (a' := ?_) ?_ ?_
                       rotate_left
                       ·show Act.put _ (some 143) _ = _
                        simp only [Act.put, List.setIfInBounds_toArray, List.set_cons_zero, List.set_cons_succ, i64_w, i32_w]
                        rfl
                       exact norm_ (by simp only [putAll, Act.put, List.setIfInBounds_toArray, List.set_cons_zero, List.set_cons_succ]) (hJ1_3_5_6 (v160, v163, .slice Ao96 y165.length co96, v169) _ ⟨hHeld, (by (with_reducible repeat (first | apply Kd.R_alloc | apply Kd.R_drewN | apply Kd.R_drew)); exact Kd.R_mono HO167.out (fun _ hk => hk.2)), HO170.out, BK131.out, BK140.out, BK148.out, BK158.out, HB.out⟩)
                      ·skip
                       refine box_step ?hg (N := 22) ?hd (cs := #[.int .i64 0, .int .i64 0, .int .i64 0, .bool false]) (t := 30) ?hr ?_; (case hd => rfl); (case hg => rfl); (case hr => first | (go_simp; done) | (go_simp; rfl))
                       intro gb177 hg w95 hbox hb
                       have n0_ := Aside0.mk (Kd.R_below HO164.out hb); have n1_ := Aside0.mk (Kd.R_below HO167.out hb); have n2_ := Aside0.mk (blk_below BK131.out hb); have n3_ := Aside0.mk (blk_below BK140.out hb); have n4_ := Aside0.mk (blk_below BK148.out hb); have n5_ := Aside0.mk (blk_below BK158.out hb); have n6_ := Aside0.mk (below_step HB.out hb); have n7_ := Aside0.mk (hbox); have n8_ := Aside0.mk ((by rw [hg]; exact (below_size HB.out) : w.heap.size ≤ gb177)); have n9_ := Aside0.mk ((by rw [hg]; exact (below_size HB.out) : w.heap.size ≤ gb177)); have n10_ := Aside0.mk ((by rw [hg]; exact Nat.ne_of_lt (blk_lt BK131.out) : gb131 ≠ gb177)); have n11_ := Aside0.mk ((by rw [hg]; exact Nat.ne_of_gt (blk_lt BK131.out) : gb177 ≠ gb131)); have n12_ := Aside0.mk ((by rw [hg]; exact Nat.ne_of_lt (blk_lt BK140.out) : gb140 ≠ gb177)); have n13_ := Aside0.mk ((by rw [hg]; exact Nat.ne_of_gt (blk_lt BK140.out) : gb177 ≠ gb140)); have n14_ := Aside0.mk ((by rw [hg]; exact Nat.ne_of_lt (blk_lt BK148.out) : gb148 ≠ gb177)); have n15_ := Aside0.mk ((by rw [hg]; exact Nat.ne_of_gt (blk_lt BK148.out) : gb177 ≠ gb148)); have n16_ := Aside0.mk ((by rw [hg]; exact Nat.ne_of_lt (blk_lt BK158.out) : gb158 ≠ gb177)); have n17_ := Aside0.mk ((by rw [hg]; exact Nat.ne_of_gt (blk_lt BK158.out) : gb177 ≠ gb158)); clear HO164; clear HO167; clear BK131; clear BK140; clear BK148; clear BK158; clear HB; have HO164 := n0_; have HO167 := n1_; have BK131 := n2_; have BK140 := n3_
                       have BK148 := n4_; have BK158 := n5_; have HB := n6_; have BK177 := n7_; have GW177 := n8_; have GE177 := n9_; have NB131_177 := n10_; have NB177_131 := n11_; have NB140_177 := n12_; have NB177_140 := n13_; have NB148_177 := n14_; have NB177_148 := n15_; have NB158_177 := n16_; have NB177_158 := n17_; clear n0_ n1_ n2_ n3_ n4_ n5_ n6_ n7_ n8_ n9_ n10_ n11_ n12_ n13_ n14_ n15_ n16_ n17_; clear hb hbox hg
                       refine hK.out _ _ ⟨(blk_cell BK131.out 0).trans rfl, (blk_cell BK131.out 1).trans rfl⟩ (fun hHeld => ?_)
                       clear hK K
                       refine norm_ (a' := ?_) ?_ ?_
                       rotate_left
                       ·show Act.put _ (some 22) _ = _
                        simp only [Act.put, List.setIfInBounds_toArray, List.set_cons_zero, List.set_cons_succ, i64_w, i32_w]
                        rfl
                       exact norm_ (by simp only [putAll, Act.put, List.setIfInBounds_toArray, List.set_cons_zero, List.set_cons_succ]) (hJ1_3_5_12 (v160, v163, .slice Ao96 y165.length co96, gb177) _ ⟨hHeld, HO164.out, HO167.out, BK131.out, BK140.out, BK148.out, BK158.out, BK177.out, GW177.out, GE177.out, NB131_177.out, NB177_131.out, NB140_177.out, NB177_140.out, NB148_177.out, NB177_148.out, NB158_177.out, NB177_158.out, HB.out⟩)
                    ·skip
                     rintro ⟨v160, v163, v166, gb177⟩ w95 ⟨hS_, h0_, h1_, h2_, h3_, h4_, h5_, h6_, h7_, h8_, h9_, h10_, h11_, h12_, h13_, h14_, h15_, h16_, h17_⟩
                     have n0_ : Aside0 (Kd.R (Kd.int .i64) 3 w95 w.heap.size (fun k_ => some k_ ≠ (v166 : Value).ownBlock) v163 y162) := ⟨h0_⟩; have n1_ : Aside0 (Kd.R (Kd.int .i64) 3 w95 w.heap.size (fun k_ => some k_ ≠ (v163 : Value).ownBlock) v166 y165) := ⟨h1_⟩; have n2_ : Aside0 (w95.heap[gb131]? = some (.cells #[.slice A0_0 l0_0.length c0_0, .int .i64 a0_1] 24 (0, 0))) := ⟨h2_⟩; have n3_ : Aside0 (w95.heap[gb140]? = some (.cells #[.int .i64 t134, .int .i64 t135, .int .i64 t136, .bool t137] 30 (0, 0))) := ⟨h3_⟩; have n4_ : Aside0 (w95.heap[gb148]? = some (.cells #[.int .i64 t142, .int .i64 t143, .int .i64 t144, .bool t145] 30 (0, 0))) := ⟨h4_⟩; have n5_ : Aside0 (w95.heap[gb158]? = some (.cells #[.int .i64 t153, .int .i64 t154, .int .i64 t155, .bool t156] 30 (0, 0))) := ⟨h5_⟩; have n6_ : Aside0 (w95.heap[gb177]? = some (.cells #[.int .i64 0, .int .i64 0, .int .i64 0, .bool false] 30 (0, 0))) := ⟨h6_⟩; have n7_ : Aside0 (w.heap.size ≤ gb177) := ⟨h7_⟩; have n8_ : Aside0 (w.heap.size ≤ gb177) := ⟨h8_⟩; have n9_ : Aside0 (gb131 ≠ gb177) := ⟨h9_⟩; have n10_ : Aside0 (gb177 ≠ gb131) := ⟨h10_⟩; have n11_ : Aside0 (gb140 ≠ gb177) := ⟨h11_⟩; have n12_ : Aside0 (gb177 ≠ gb140) := ⟨h12_⟩; have n13_ : Aside0 (gb148 ≠ gb177) := ⟨h13_⟩; have n14_ : Aside0 (gb177 ≠ gb148) := ⟨h14_⟩; have n15_ : Aside0 (gb158 ≠ gb177) := ⟨h15_⟩; have n16_ : Aside0 (gb177 ≠ gb158) := ⟨h16_⟩; have n17_ : Aside0 (Below w.heap.size w w95) := ⟨h17_⟩; clear BK131; clear BK140; clear BK148
                     clear BK158; clear HB; clear h0_ h1_ h2_ h3_ h4_ h5_ h6_ h7_ h8_ h9_ h10_ h11_ h12_ h13_ h14_ h15_ h16_ h17_; have HO164 := n0_; have HO167 := n1_; have BK131 := n2_; have BK140 := n3_; have BK148 := n4_; have BK158 := n5_; have BK177 := n6_; have GW177 := n7_; have GE177 := n8_; have NB131_177 := n9_; have NB177_131 := n10_; have NB140_177 := n11_; have NB177_140 := n12_; have NB148_177 := n13_; have NB177_148 := n14_; have NB158_177 := n15_; have NB177_158 := n16_; have HB := n17_; clear n0_ n1_ n2_ n3_ n4_ n5_ n6_ n7_ n8_ n9_ n10_ n11_ n12_ n13_ n14_ n15_ n16_ n17_; have hHeld : w95.cell? ⟨gb131, 0, none⟩ = some (.slice A0_0 l0_0.length c0_0) ∧ w95.cell? ⟨gb131, 1, none⟩ = some (.int .i64 a0_1) := hS_
                     obtain ⟨Ao97, co97, eo97⟩ := Kd.R_slice HO167.out
                     (first | subst eo97 | (injection eo97 with f1_ f2_ f3_; have f4_ := f1_.symm; have f5_ := f3_.symm; clear f1_ f2_ f3_; subst f4_; subst f5_))
                     refine norm_ (a' := ?_) ?_ ?_
                     rotate_left
                     ·simp only [putAll, Act.put, List.setIfInBounds_toArray, List.set_cons_zero, List.set_cons_succ]
                      rfl
                     refine one_ (i := 6) (N := some 143) #[true, true, true, true, true, true, true, false, false, false, false, false, true, false, false, false] rfl rfl (one_of HT_.out (by kernel_rfl)) (by decide) (fun K hK => ?_)
                     refine Kd.R_append_rows_step (Kd.int .i64) (w0 := w) w.heap.size (by rfl) (.tmp 140) (.tmp 142) 25 3 (.int .i64 0) 8 rfl Try.underlying25 info3 rfl (by decide) (by omega) v163 y162 y165 _ _ _ (fun k_ => some k_ ≠ (.slice Ao97 y165.length co97 : Value).ownBlock) (fun _ => False) rfl rfl ?aO ?aR (fun _ _ h => h) (fun _ h => h.elim) ?aF ?aB ?aS ?aL ?_
                     (case aR => repeat (first | exact (Kd.R_reads' HO167.out).2.2 | (with_reducible refine Kd.C_alloc ?_ _) | (with_reducible refine Kd.C_drewN ?_ _) | (with_reducible refine Kd.C_drew ?_)))
                     (case aB => exact HB.out)
                     (case aF => exact (fun k_ hk => Kd.fresh' (Kd.R_lt HO167.out) k_ hk))
                     (case aO => exact HO164.out)
                     (case aS => exact (below_size HB.out))
                     (case aL => have := LMc70.out; omega)
                     intro v169 w96 ho hb hg hat
                     rw [← Ny168.out] at ho
                     have n0_ := Aside0.mk (blk_grown (g := gb131) (o := .cells #[.slice A0_0 l0_0.length c0_0, .int .i64 a0_1] 24 (0, 0)) BK131.out hg (Kd.R_ne HO164.out BK131.out (by decide))); have n1_ := Aside0.mk (blk_grown (g := gb140) (o := .cells #[.int .i64 t134, .int .i64 t135, .int .i64 t136, .bool t137] 30 (0, 0)) BK140.out hg (Kd.R_ne HO164.out BK140.out (by decide))); have n2_ := Aside0.mk (blk_grown (g := gb148) (o := .cells #[.int .i64 t142, .int .i64 t143, .int .i64 t144, .bool t145] 30 (0, 0)) BK148.out hg (Kd.R_ne HO164.out BK148.out (by decide))); have n3_ := Aside0.mk (blk_grown (g := gb158) (o := .cells #[.int .i64 t153, .int .i64 t154, .int .i64 t155, .bool t156] 30 (0, 0)) BK158.out hg (Kd.R_ne HO164.out BK158.out (by decide))); have n4_ := Aside0.mk (Kd.R_after (ok := (fun _ => True)) (by (with_reducible repeat (first | apply Kd.R_alloc | apply Kd.R_drewN | apply Kd.R_drew)); exact Kd.R_mono HO167.out (fun _ hk => ⟨trivial, hk⟩)) hg hat); have n5_ := Aside0.mk (blk_grown (g := gb177) (o := .cells #[.int .i64 0, .int .i64 0, .int .i64 0, .bool false] 30 (0, 0)) BK177.out hg (Kd.R_ne HO164.out BK177.out (by decide))); have n6_ := Aside0.mk (hb); have n7_ := Aside0.mk (ho); clear BK131; clear BK140; clear BK148; clear BK158; clear HO167; clear BK177; clear HB; clear HO164; have BK131 := n0_; have BK140 := n1_; have BK148 := n2_; have BK158 := n3_; have HO167 := n4_; have BK177 := n5_; have HB := n6_; have HO170 := n7_; clear n0_ n1_ n2_ n3_ n4_ n5_ n6_ n7_
                     clear ho hb hg hat
                     refine hK.out _ _ ⟨(blk_cell BK131.out 0).trans rfl, (blk_cell BK131.out 1).trans rfl⟩ (fun hHeld => ?_)
                     clear hK K
                     refine norm_ (a' := ?_) ?_ ?_
                     rotate_left
                     ·show Act.put _ (some 143) _ = _
                      simp only [Act.put, List.setIfInBounds_toArray, List.set_cons_zero, List.set_cons_succ, i64_w, i32_w]
                      rfl
                     exact norm_ (by simp only [putAll, Act.put, List.setIfInBounds_toArray, List.set_cons_zero, List.set_cons_succ]) (hJ1_3_5_6_12 (v160, v163, .slice Ao97 y165.length co97, v169, gb177) _ ⟨hHeld, (by (with_reducible repeat (first | apply Kd.R_alloc | apply Kd.R_drewN | apply Kd.R_drew)); exact Kd.R_mono HO167.out (fun _ hk => hk.2)), HO170.out, BK131.out, BK140.out, BK148.out, BK158.out, BK177.out, GW177.out, GE177.out, NB131_177.out, NB177_131.out, NB140_177.out, NB177_140.out, NB148_177.out, NB177_148.out, NB158_177.out, NB177_158.out, HB.out⟩)
                   ·skip
                    rintro ⟨v160, v163, v166, v169⟩ w96 ⟨hS_, h0_, h1_, h2_, h3_, h4_, h5_, h6_⟩
                    have n0_ : Aside0 (Kd.R (Kd.int .i64) 3 w96 w.heap.size (fun k_ => some k_ ≠ (v169 : Value).ownBlock) v166 y165) := ⟨h0_⟩; have n1_ : Aside0 (Kd.R (Kd.int .i64) 3 w96 w.heap.size (fun k_ => some k_ ≠ (v166 : Value).ownBlock) v169 y168) := ⟨h1_⟩; have n2_ : Aside0 (w96.heap[gb131]? = some (.cells #[.slice A0_0 l0_0.length c0_0, .int .i64 a0_1] 24 (0, 0))) := ⟨h2_⟩; have n3_ : Aside0 (w96.heap[gb140]? = some (.cells #[.int .i64 t134, .int .i64 t135, .int .i64 t136, .bool t137] 30 (0, 0))) := ⟨h3_⟩; have n4_ : Aside0 (w96.heap[gb148]? = some (.cells #[.int .i64 t142, .int .i64 t143, .int .i64 t144, .bool t145] 30 (0, 0))) := ⟨h4_⟩; have n5_ : Aside0 (w96.heap[gb158]? = some (.cells #[.int .i64 t153, .int .i64 t154, .int .i64 t155, .bool t156] 30 (0, 0))) := ⟨h5_⟩; have n6_ : Aside0 (Below w.heap.size w w96) := ⟨h6_⟩; clear BK131; clear BK140; clear BK148; clear BK158; clear HB; clear h0_ h1_ h2_ h3_ h4_ h5_ h6_; have HO167 := n0_; have HO170 := n1_; have BK131 := n2_; have BK140 := n3_; have BK148 := n4_; have BK158 := n5_; have HB := n6_; clear n0_ n1_ n2_ n3_ n4_ n5_ n6_; have hHeld : w96.cell? ⟨gb131, 0, none⟩ = some (.slice A0_0 l0_0.length c0_0) ∧ w96.cell? ⟨gb131, 1, none⟩ = some (.int .i64 a0_1) := hS_
                    obtain ⟨Ao97, co97, eo97⟩ := Kd.R_slice HO170.out
                    (first | subst eo97 | (injection eo97 with f1_ f2_ f3_; have f4_ := f1_.symm; have f5_ := f3_.symm; clear f1_ f2_ f3_; subst f4_; subst f5_))
                    refine norm_ (a' := ?_) ?_ ?_
                    rotate_left
                    ·simp only [putAll, Act.put, List.setIfInBounds_toArray, List.set_cons_zero, List.set_cons_succ]
                     rfl
                    refine two_ (i := 7) (j := 12) (Ni := some 144) (Nj := some 22) #[true, true, true, true, true, true, true, true, false, false, false, false, false, false, false, false] #[true, true, true, true, true, true, true, false, false, false, false, false, true, false, false, false] rfl rfl rfl rfl (two_of HT_.out (by kernel_rfl)) (by decide) (by decide) (fun K hK => ?_) (fun K hK => ?_)
                    ·skip
                     refine goes_ Try.func11 (by kernel_rfl) rfl #[.agg #[.slice A0_0 l0_0.length c0_0, .int .i64 a0_1], .slice Ao97 y168.length co97] (by rfl) rfl rfl (by (try simp only [List.map_toArray, List.map_cons, List.map_nil]); first | done | rfl | (simp only [List.length_drop, List.length_take]; rfl)) ?_
                     with_reducible refine (cadence_Replay.calls k3 _ _ l0_0 a0_1 _ _ y168 t171 t172 t173 t174 t175 t176 _ ?side1 ?side2 ?side3 ?side4 A71.out).mono ?_
                     (case side1 => repeat (first | exact (Kd.C_below HR0_0.out HB.out) | (with_reducible refine Kd.C_alloc ?_ _) | (with_reducible refine Kd.C_drewN ?_ _) | (with_reducible refine Kd.C_drew ?_)))
                     (case side2 => exact HC0_0.out)
                     (case side3 => repeat (first | exact (Kd.R_reads' HO170.out).2.2 | (with_reducible refine Kd.C_alloc ?_ _) | (with_reducible refine Kd.C_drewN ?_ _) | (with_reducible refine Kd.C_drew ?_)))
                     (case side4 => exact (Kd.R_reads' HO170.out).2.1)
                     rintro e w98 ⟨rfl, hb⟩
                     refine ⟨_, rfl, ?_⟩
                     have n0_ := Aside0.mk (Kd.R_below HO167.out hb); have n1_ := Aside0.mk (Kd.R_below HO170.out hb); have n2_ := Aside0.mk (blk_below BK131.out hb); have n3_ := Aside0.mk (blk_below BK140.out hb); have n4_ := Aside0.mk (blk_below BK148.out hb); have n5_ := Aside0.mk (blk_below BK158.out hb); have n6_ := Aside0.mk (below_step HB.out hb); clear HO167; clear HO170; clear BK131; clear BK140; clear BK148; clear BK158; clear HB; have HO167 := n0_; have HO170 := n1_; have BK131 := n2_; have BK140 := n3_; have BK148 := n4_; have BK158 := n5_; have HB := n6_; clear n0_ n1_ n2_ n3_ n4_ n5_ n6_
                     (try clear hb)
                     (try clear hb2)
                     (try clear hk)
                     (try clear hi)
                     refine hK.out _ _ ⟨(blk_cell BK131.out 0).trans rfl, (blk_cell BK131.out 1).trans rfl⟩ (fun hHeld => ?_)
                     clear hK K
                     refine norm_ (a' := ?_) ?_ ?_
                     rotate_left
                     ·show Act.put _ (some 144) _ = _
                      simp only [Act.put, List.setIfInBounds_toArray, List.set_cons_zero, List.set_cons_succ, i64_w, i32_w]
                      rfl
                     refine pure_ (i := 8) (N := some 136) (v := ?_) (a' := ?_) #[true, true, true, true, true, true, true, true, true, false, false, false, false, false, false, false] rfl rfl (any_of HT_.out (by kernel_rfl)) (fun _ _ _ h => h) (Or.inl ⟨by rfl, ?_⟩) ?_ ?_
                     rotate_left
                     ·intro w'
                      go_simp
                      with_reducible rfl
                     rotate_left
                     ·simp only [Act.put, List.setIfInBounds_toArray, List.set_cons_zero, List.set_cons_succ, i64_w, i32_w]
                      rfl
                     refine pure_ (i := 9) (N := some 145) (v := ?_) (a' := ?_) #[true, true, true, true, true, true, true, true, true, true, false, false, false, false, false, false] rfl rfl (any_of HT_.out (by kernel_rfl)) (fun _ _ _ h => h) (Or.inl ⟨by rfl, ?_⟩) ?_ ?_
                     rotate_left
                     ·intro w'
                      go_simp
                      with_reducible rfl
                     rotate_left
                     ·simp only [Act.put, List.setIfInBounds_toArray, List.set_cons_zero, List.set_cons_succ, i64_w, i32_w]
                      rfl
                     refine pure_ (i := 10) (N := some 146) (v := ?_) (a' := ?_) #[true, true, true, true, true, true, true, true, true, true, true, false, false, false, false, false] rfl rfl (any_of HT_.out (by kernel_rfl)) (fun _ _ _ h => h) (Or.inl ⟨by rfl, ?_⟩) ?_ ?_
                     rotate_left
                     ·intro w'
                      go_simp
                      with_reducible rfl
                     rotate_left
                     ·simp only [Act.put, List.setIfInBounds_toArray, List.set_cons_zero, List.set_cons_succ, i64_w, i32_w]
                      rfl
                     refine pure_ (i := 11) (N := some 147) (v := ?_) (a' := ?_) #[true, true, true, true, true, true, true, true, true, true, true, true, false, false, false, false] rfl rfl (any_of HT_.out (by kernel_rfl)) (fun _ _ _ h => h) (Or.inl ⟨by rfl, ?_⟩) ?_ ?_
                     rotate_left
                     ·intro w'
                      go_simp
                      with_reducible rfl
                     rotate_left
                     ·simp only [Act.put, List.setIfInBounds_toArray, List.set_cons_zero, List.set_cons_succ, i64_w, i32_w]
                      rfl
                     exact norm_ (by simp only [putAll, Act.put, List.setIfInBounds_toArray, List.set_cons_zero, List.set_cons_succ]) (hJ1_3_5_6_7 (v160, v163, v166, .slice Ao97 y168.length co97) _ ⟨hHeld, HO167.out, HO170.out, BK131.out, BK140.out, BK148.out, BK158.out, HB.out⟩)
                    ·skip
                     refine box_step ?hg (N := 22) ?hd (cs := #[.int .i64 0, .int .i64 0, .int .i64 0, .bool false]) (t := 30) ?hr ?_; (case hd => rfl); (case hg => rfl); (case hr => first | (go_simp; done) | (go_simp; rfl))
                     intro gb177 hg w97 hbox hb
                     have n0_ := Aside0.mk (Kd.R_below HO167.out hb); have n1_ := Aside0.mk (Kd.R_below HO170.out hb); have n2_ := Aside0.mk (blk_below BK131.out hb); have n3_ := Aside0.mk (blk_below BK140.out hb); have n4_ := Aside0.mk (blk_below BK148.out hb); have n5_ := Aside0.mk (blk_below BK158.out hb); have n6_ := Aside0.mk (below_step HB.out hb); have n7_ := Aside0.mk (hbox); have n8_ := Aside0.mk ((by rw [hg]; exact (below_size HB.out) : w.heap.size ≤ gb177)); have n9_ := Aside0.mk ((by rw [hg]; exact (below_size HB.out) : w.heap.size ≤ gb177)); have n10_ := Aside0.mk ((by rw [hg]; exact Nat.ne_of_lt (blk_lt BK131.out) : gb131 ≠ gb177)); have n11_ := Aside0.mk ((by rw [hg]; exact Nat.ne_of_gt (blk_lt BK131.out) : gb177 ≠ gb131)); have n12_ := Aside0.mk ((by rw [hg]; exact Nat.ne_of_lt (blk_lt BK140.out) : gb140 ≠ gb177)); have n13_ := Aside0.mk ((by rw [hg]; exact Nat.ne_of_gt (blk_lt BK140.out) : gb177 ≠ gb140)); have n14_ := Aside0.mk ((by rw [hg]; exact Nat.ne_of_lt (blk_lt BK148.out) : gb148 ≠ gb177)); have n15_ := Aside0.mk ((by rw [hg]; exact Nat.ne_of_gt (blk_lt BK148.out) : gb177 ≠ gb148)); have n16_ := Aside0.mk ((by rw [hg]; exact Nat.ne_of_lt (blk_lt BK158.out) : gb158 ≠ gb177)); have n17_ := Aside0.mk ((by rw [hg]; exact Nat.ne_of_gt (blk_lt BK158.out) : gb177 ≠ gb158)); clear HO167; clear HO170; clear BK131; clear BK140; clear BK148; clear BK158; clear HB; have HO167 := n0_; have HO170 := n1_; have BK131 := n2_; have BK140 := n3_; have BK148 := n4_
                     have BK158 := n5_; have HB := n6_; have BK177 := n7_; have GW177 := n8_; have GE177 := n9_; have NB131_177 := n10_; have NB177_131 := n11_; have NB140_177 := n12_; have NB177_140 := n13_; have NB148_177 := n14_; have NB177_148 := n15_; have NB158_177 := n16_; have NB177_158 := n17_; clear n0_ n1_ n2_ n3_ n4_ n5_ n6_ n7_ n8_ n9_ n10_ n11_ n12_ n13_ n14_ n15_ n16_ n17_; clear hb hbox hg
                     refine hK.out _ _ ⟨(blk_cell BK131.out 0).trans rfl, (blk_cell BK131.out 1).trans rfl⟩ (fun hHeld => ?_)
                     clear hK K
                     refine norm_ (a' := ?_) ?_ ?_
                     rotate_left
                     ·show Act.put _ (some 22) _ = _
                      simp only [Act.put, List.setIfInBounds_toArray, List.set_cons_zero, List.set_cons_succ, i64_w, i32_w]
                      rfl
                     exact norm_ (by simp only [putAll, Act.put, List.setIfInBounds_toArray, List.set_cons_zero, List.set_cons_succ]) (hJ1_3_5_6_12 (v160, v163, v166, .slice Ao97 y168.length co97, gb177) _ ⟨hHeld, HO167.out, HO170.out, BK131.out, BK140.out, BK148.out, BK158.out, BK177.out, GW177.out, GE177.out, NB131_177.out, NB177_131.out, NB140_177.out, NB177_140.out, NB148_177.out, NB177_148.out, NB158_177.out, NB177_158.out, HB.out⟩)
                  ·skip
                   rintro ⟨v160, v163, v166, v169, gb177⟩ w97 ⟨hS_, h0_, h1_, h2_, h3_, h4_, h5_, h6_, h7_, h8_, h9_, h10_, h11_, h12_, h13_, h14_, h15_, h16_, h17_⟩
                   have n0_ : Aside0 (Kd.R (Kd.int .i64) 3 w97 w.heap.size (fun k_ => some k_ ≠ (v169 : Value).ownBlock) v166 y165) := ⟨h0_⟩; have n1_ : Aside0 (Kd.R (Kd.int .i64) 3 w97 w.heap.size (fun k_ => some k_ ≠ (v166 : Value).ownBlock) v169 y168) := ⟨h1_⟩; have n2_ : Aside0 (w97.heap[gb131]? = some (.cells #[.slice A0_0 l0_0.length c0_0, .int .i64 a0_1] 24 (0, 0))) := ⟨h2_⟩; have n3_ : Aside0 (w97.heap[gb140]? = some (.cells #[.int .i64 t134, .int .i64 t135, .int .i64 t136, .bool t137] 30 (0, 0))) := ⟨h3_⟩; have n4_ : Aside0 (w97.heap[gb148]? = some (.cells #[.int .i64 t142, .int .i64 t143, .int .i64 t144, .bool t145] 30 (0, 0))) := ⟨h4_⟩; have n5_ : Aside0 (w97.heap[gb158]? = some (.cells #[.int .i64 t153, .int .i64 t154, .int .i64 t155, .bool t156] 30 (0, 0))) := ⟨h5_⟩; have n6_ : Aside0 (w97.heap[gb177]? = some (.cells #[.int .i64 0, .int .i64 0, .int .i64 0, .bool false] 30 (0, 0))) := ⟨h6_⟩; have n7_ : Aside0 (w.heap.size ≤ gb177) := ⟨h7_⟩; have n8_ : Aside0 (w.heap.size ≤ gb177) := ⟨h8_⟩; have n9_ : Aside0 (gb131 ≠ gb177) := ⟨h9_⟩; have n10_ : Aside0 (gb177 ≠ gb131) := ⟨h10_⟩; have n11_ : Aside0 (gb140 ≠ gb177) := ⟨h11_⟩; have n12_ : Aside0 (gb177 ≠ gb140) := ⟨h12_⟩; have n13_ : Aside0 (gb148 ≠ gb177) := ⟨h13_⟩; have n14_ : Aside0 (gb177 ≠ gb148) := ⟨h14_⟩; have n15_ : Aside0 (gb158 ≠ gb177) := ⟨h15_⟩; have n16_ : Aside0 (gb177 ≠ gb158) := ⟨h16_⟩; have n17_ : Aside0 (Below w.heap.size w w97) := ⟨h17_⟩; clear BK131; clear BK140; clear BK148; clear BK158
                   clear HB; clear h0_ h1_ h2_ h3_ h4_ h5_ h6_ h7_ h8_ h9_ h10_ h11_ h12_ h13_ h14_ h15_ h16_ h17_; have HO167 := n0_; have HO170 := n1_; have BK131 := n2_; have BK140 := n3_; have BK148 := n4_; have BK158 := n5_; have BK177 := n6_; have GW177 := n7_; have GE177 := n8_; have NB131_177 := n9_; have NB177_131 := n10_; have NB140_177 := n11_; have NB177_140 := n12_; have NB148_177 := n13_; have NB177_148 := n14_; have NB158_177 := n15_; have NB177_158 := n16_; have HB := n17_; clear n0_ n1_ n2_ n3_ n4_ n5_ n6_ n7_ n8_ n9_ n10_ n11_ n12_ n13_ n14_ n15_ n16_ n17_; have hHeld : w97.cell? ⟨gb131, 0, none⟩ = some (.slice A0_0 l0_0.length c0_0) ∧ w97.cell? ⟨gb131, 1, none⟩ = some (.int .i64 a0_1) := hS_
                   obtain ⟨Ao98, co98, eo98⟩ := Kd.R_slice HO170.out
                   (first | subst eo98 | (injection eo98 with f1_ f2_ f3_; have f4_ := f1_.symm; have f5_ := f3_.symm; clear f1_ f2_ f3_; subst f4_; subst f5_))
                   refine norm_ (a' := ?_) ?_ ?_
                   rotate_left
                   ·simp only [putAll, Act.put, List.setIfInBounds_toArray, List.set_cons_zero, List.set_cons_succ]
                    rfl
                   refine one_ (i := 7) (N := some 144) #[true, true, true, true, true, true, true, true, false, false, false, false, true, false, false, false] rfl rfl (one_of HT_.out (by kernel_rfl)) (by decide) (fun K hK => ?_)
                   refine goes_ Try.func11 (by kernel_rfl) rfl #[.agg #[.slice A0_0 l0_0.length c0_0, .int .i64 a0_1], .slice Ao98 y168.length co98] (by rfl) rfl rfl (by (try simp only [List.map_toArray, List.map_cons, List.map_nil]); first | done | rfl | (simp only [List.length_drop, List.length_take]; rfl)) ?_
                   with_reducible refine (cadence_Replay.calls k3 _ _ l0_0 a0_1 _ _ y168 t171 t172 t173 t174 t175 t176 _ ?side1 ?side2 ?side3 ?side4 A71.out).mono ?_
                   (case side1 => repeat (first | exact (Kd.C_below HR0_0.out HB.out) | (with_reducible refine Kd.C_alloc ?_ _) | (with_reducible refine Kd.C_drewN ?_ _) | (with_reducible refine Kd.C_drew ?_)))
                   (case side2 => exact HC0_0.out)
                   (case side3 => repeat (first | exact (Kd.R_reads' HO170.out).2.2 | (with_reducible refine Kd.C_alloc ?_ _) | (with_reducible refine Kd.C_drewN ?_ _) | (with_reducible refine Kd.C_drew ?_)))
                   (case side4 => exact (Kd.R_reads' HO170.out).2.1)
                   rintro e w99 ⟨rfl, hb⟩
                   refine ⟨_, rfl, ?_⟩
                   have n0_ := Aside0.mk (Kd.R_below HO167.out hb); have n1_ := Aside0.mk (Kd.R_below HO170.out hb); have n2_ := Aside0.mk (blk_below BK131.out hb); have n3_ := Aside0.mk (blk_below BK140.out hb); have n4_ := Aside0.mk (blk_below BK148.out hb); have n5_ := Aside0.mk (blk_below BK158.out hb); have n6_ := Aside0.mk (blk_below BK177.out hb); have n7_ := Aside0.mk (below_step HB.out hb); clear HO167; clear HO170; clear BK131; clear BK140; clear BK148; clear BK158; clear BK177; clear HB; have HO167 := n0_; have HO170 := n1_; have BK131 := n2_; have BK140 := n3_; have BK148 := n4_; have BK158 := n5_; have BK177 := n6_; have HB := n7_; clear n0_ n1_ n2_ n3_ n4_ n5_ n6_ n7_
                   (try clear hb)
                   (try clear hb2)
                   (try clear hk)
                   (try clear hi)
                   refine hK.out _ _ ⟨(blk_cell BK131.out 0).trans rfl, (blk_cell BK131.out 1).trans rfl⟩ (fun hHeld => ?_)
                   clear hK K
                   refine norm_ (a' := ?_) ?_ ?_
                   rotate_left
                   ·show Act.put _ (some 144) _ = _
                    simp only [Act.put, List.setIfInBounds_toArray, List.set_cons_zero, List.set_cons_succ, i64_w, i32_w]
                    rfl
                   refine pure_ (i := 8) (N := some 136) (v := ?_) (a' := ?_) #[true, true, true, true, true, true, true, true, true, false, false, false, true, false, false, false] rfl rfl (any_of HT_.out (by kernel_rfl)) (fun _ _ _ h => h) (Or.inl ⟨by rfl, ?_⟩) ?_ ?_
                   rotate_left
                   ·intro w'
                    go_simp
                    with_reducible rfl
                   rotate_left
                   ·simp only [Act.put, List.setIfInBounds_toArray, List.set_cons_zero, List.set_cons_succ, i64_w, i32_w]
                    rfl
                   refine pure_ (i := 9) (N := some 145) (v := ?_) (a' := ?_) #[true, true, true, true, true, true, true, true, true, true, false, false, true, false, false, false] rfl rfl (any_of HT_.out (by kernel_rfl)) (fun _ _ _ h => h) (Or.inl ⟨by rfl, ?_⟩) ?_ ?_
                   rotate_left
                   ·intro w'
                    go_simp
                    with_reducible rfl
                   rotate_left
                   ·simp only [Act.put, List.setIfInBounds_toArray, List.set_cons_zero, List.set_cons_succ, i64_w, i32_w]
                    rfl
                   refine pure_ (i := 10) (N := some 146) (v := ?_) (a' := ?_) #[true, true, true, true, true, true, true, true, true, true, true, false, true, false, false, false] rfl rfl (any_of HT_.out (by kernel_rfl)) (fun _ _ _ h => h) (Or.inl ⟨by rfl, ?_⟩) ?_ ?_
                   rotate_left
                   ·intro w'
                    go_simp
                    with_reducible rfl
                   rotate_left
                   ·simp only [Act.put, List.setIfInBounds_toArray, List.set_cons_zero, List.set_cons_succ, i64_w, i32_w]
                    rfl
                   refine pure_ (i := 11) (N := some 147) (v := ?_) (a' := ?_) #[true, true, true, true, true, true, true, true, true, true, true, true, true, false, false, false] rfl rfl (any_of HT_.out (by kernel_rfl)) (fun _ _ _ h => h) (Or.inl ⟨by rfl, ?_⟩) ?_ ?_
                   rotate_left
                   ·intro w'
                    go_simp
                    with_reducible rfl
                   rotate_left
                   ·simp only [Act.put, List.setIfInBounds_toArray, List.set_cons_zero, List.set_cons_succ, i64_w, i32_w]
                    rfl
                   exact norm_ (by simp only [putAll, Act.put, List.setIfInBounds_toArray, List.set_cons_zero, List.set_cons_succ]) (hJ1_3_5_6_7_12 (v160, v163, v166, .slice Ao98 y168.length co98, gb177) _ ⟨hHeld, HO167.out, HO170.out, BK131.out, BK140.out, BK148.out, BK158.out, BK177.out, GW177.out, GE177.out, NB131_177.out, NB177_131.out, NB140_177.out, NB177_140.out, NB148_177.out, NB177_148.out, NB158_177.out, NB177_158.out, HB.out⟩)
                 ·skip
                  rintro ⟨v160, v163, v166, v169⟩ w98 ⟨hS_, h0_, h1_, h2_, h3_, h4_, h5_, h6_⟩
                  have n0_ : Aside0 (Kd.R (Kd.int .i64) 3 w98 w.heap.size (fun k_ => some k_ ≠ (v169 : Value).ownBlock) v166 y165) := ⟨h0_⟩; have n1_ : Aside0 (Kd.R (Kd.int .i64) 3 w98 w.heap.size (fun k_ => some k_ ≠ (v166 : Value).ownBlock) v169 y168) := ⟨h1_⟩; have n2_ : Aside0 (w98.heap[gb131]? = some (.cells #[.slice A0_0 l0_0.length c0_0, .int .i64 a0_1] 24 (0, 0))) := ⟨h2_⟩; have n3_ : Aside0 (w98.heap[gb140]? = some (.cells #[.int .i64 t134, .int .i64 t135, .int .i64 t136, .bool t137] 30 (0, 0))) := ⟨h3_⟩; have n4_ : Aside0 (w98.heap[gb148]? = some (.cells #[.int .i64 t142, .int .i64 t143, .int .i64 t144, .bool t145] 30 (0, 0))) := ⟨h4_⟩; have n5_ : Aside0 (w98.heap[gb158]? = some (.cells #[.int .i64 t153, .int .i64 t154, .int .i64 t155, .bool t156] 30 (0, 0))) := ⟨h5_⟩; have n6_ : Aside0 (Below w.heap.size w w98) := ⟨h6_⟩; clear BK131; clear BK140; clear BK148; clear BK158; clear HB; clear h0_ h1_ h2_ h3_ h4_ h5_ h6_; have HO167 := n0_; have HO170 := n1_; have BK131 := n2_; have BK140 := n3_; have BK148 := n4_; have BK158 := n5_; have HB := n6_; clear n0_ n1_ n2_ n3_ n4_ n5_ n6_; have hHeld : w98.cell? ⟨gb131, 0, none⟩ = some (.slice A0_0 l0_0.length c0_0) ∧ w98.cell? ⟨gb131, 1, none⟩ = some (.int .i64 a0_1) := hS_
                  refine norm_ (a' := ?_) ?_ ?_
                  rotate_left
                  ·simp only [putAll, Act.put, List.setIfInBounds_toArray, List.set_cons_zero, List.set_cons_succ]
                   rfl
                  refine one_ (i := 12) (N := some 22) #[true, true, true, true, true, true, true, true, true, true, true, true, true, false, false, false] rfl rfl (one_of HT_.out (by kernel_rfl)) (by decide) (fun K hK => ?_)
                  refine box_step ?hg (N := 22) ?hd (cs := #[.int .i64 0, .int .i64 0, .int .i64 0, .bool false]) (t := 30) ?hr ?_; (case hd => rfl); (case hg => rfl); (case hr => first | (go_simp; done) | (go_simp; rfl))
                  intro gb177 hg w99 hbox hb
                  have n0_ := Aside0.mk (Kd.R_below HO167.out hb); have n1_ := Aside0.mk (Kd.R_below HO170.out hb); have n2_ := Aside0.mk (blk_below BK131.out hb); have n3_ := Aside0.mk (blk_below BK140.out hb); have n4_ := Aside0.mk (blk_below BK148.out hb); have n5_ := Aside0.mk (blk_below BK158.out hb); have n6_ := Aside0.mk (below_step HB.out hb); have n7_ := Aside0.mk (hbox); have n8_ := Aside0.mk ((by rw [hg]; exact (below_size HB.out) : w.heap.size ≤ gb177)); have n9_ := Aside0.mk ((by rw [hg]; exact (below_size HB.out) : w.heap.size ≤ gb177)); have n10_ := Aside0.mk ((by rw [hg]; exact Nat.ne_of_lt (blk_lt BK131.out) : gb131 ≠ gb177)); have n11_ := Aside0.mk ((by rw [hg]; exact Nat.ne_of_gt (blk_lt BK131.out) : gb177 ≠ gb131)); have n12_ := Aside0.mk ((by rw [hg]; exact Nat.ne_of_lt (blk_lt BK140.out) : gb140 ≠ gb177)); have n13_ := Aside0.mk ((by rw [hg]; exact Nat.ne_of_gt (blk_lt BK140.out) : gb177 ≠ gb140)); have n14_ := Aside0.mk ((by rw [hg]; exact Nat.ne_of_lt (blk_lt BK148.out) : gb148 ≠ gb177)); have n15_ := Aside0.mk ((by rw [hg]; exact Nat.ne_of_gt (blk_lt BK148.out) : gb177 ≠ gb148)); have n16_ := Aside0.mk ((by rw [hg]; exact Nat.ne_of_lt (blk_lt BK158.out) : gb158 ≠ gb177)); have n17_ := Aside0.mk ((by rw [hg]; exact Nat.ne_of_gt (blk_lt BK158.out) : gb177 ≠ gb158)); clear HO167; clear HO170; clear BK131; clear BK140; clear BK148; clear BK158; clear HB; have HO167 := n0_; have HO170 := n1_; have BK131 := n2_; have BK140 := n3_; have BK148 := n4_
                  have BK158 := n5_; have HB := n6_; have BK177 := n7_; have GW177 := n8_; have GE177 := n9_; have NB131_177 := n10_; have NB177_131 := n11_; have NB140_177 := n12_; have NB177_140 := n13_; have NB148_177 := n14_; have NB177_148 := n15_; have NB158_177 := n16_; have NB177_158 := n17_; clear n0_ n1_ n2_ n3_ n4_ n5_ n6_ n7_ n8_ n9_ n10_ n11_ n12_ n13_ n14_ n15_ n16_ n17_; clear hb hbox hg
                  refine hK.out _ _ ⟨(blk_cell BK131.out 0).trans rfl, (blk_cell BK131.out 1).trans rfl⟩ (fun hHeld => ?_)
                  clear hK K
                  refine norm_ (a' := ?_) ?_ ?_
                  rotate_left
                  ·show Act.put _ (some 22) _ = _
                   simp only [Act.put, List.setIfInBounds_toArray, List.set_cons_zero, List.set_cons_succ, i64_w, i32_w]
                   rfl
                  exact norm_ (by simp only [putAll, Act.put, List.setIfInBounds_toArray, List.set_cons_zero, List.set_cons_succ]) (hJ1_3_5_6_7_12 (v160, v163, v166, v169, gb177) _ ⟨hHeld, HO167.out, HO170.out, BK131.out, BK140.out, BK148.out, BK158.out, BK177.out, GW177.out, GE177.out, NB131_177.out, NB177_131.out, NB140_177.out, NB177_140.out, NB148_177.out, NB177_148.out, NB158_177.out, NB177_158.out, HB.out⟩)
                rintro ⟨v160, v163, v166, v169, gb177⟩ w99 ⟨hS_, h0_, h1_, h2_, h3_, h4_, h5_, h6_, h7_, h8_, h9_, h10_, h11_, h12_, h13_, h14_, h15_, h16_, h17_⟩
                have n0_ : Aside0 (Kd.R (Kd.int .i64) 3 w99 w.heap.size (fun k_ => some k_ ≠ (v169 : Value).ownBlock) v166 y165) := ⟨h0_⟩; have n1_ : Aside0 (Kd.R (Kd.int .i64) 3 w99 w.heap.size (fun k_ => some k_ ≠ (v166 : Value).ownBlock) v169 y168) := ⟨h1_⟩; have n2_ : Aside0 (w99.heap[gb131]? = some (.cells #[.slice A0_0 l0_0.length c0_0, .int .i64 a0_1] 24 (0, 0))) := ⟨h2_⟩; have n3_ : Aside0 (w99.heap[gb140]? = some (.cells #[.int .i64 t134, .int .i64 t135, .int .i64 t136, .bool t137] 30 (0, 0))) := ⟨h3_⟩; have n4_ : Aside0 (w99.heap[gb148]? = some (.cells #[.int .i64 t142, .int .i64 t143, .int .i64 t144, .bool t145] 30 (0, 0))) := ⟨h4_⟩; have n5_ : Aside0 (w99.heap[gb158]? = some (.cells #[.int .i64 t153, .int .i64 t154, .int .i64 t155, .bool t156] 30 (0, 0))) := ⟨h5_⟩; have n6_ : Aside0 (w99.heap[gb177]? = some (.cells #[.int .i64 0, .int .i64 0, .int .i64 0, .bool false] 30 (0, 0))) := ⟨h6_⟩; have n7_ : Aside0 (w.heap.size ≤ gb177) := ⟨h7_⟩; have n8_ : Aside0 (w.heap.size ≤ gb177) := ⟨h8_⟩; have n9_ : Aside0 (gb131 ≠ gb177) := ⟨h9_⟩; have n10_ : Aside0 (gb177 ≠ gb131) := ⟨h10_⟩; have n11_ : Aside0 (gb140 ≠ gb177) := ⟨h11_⟩; have n12_ : Aside0 (gb177 ≠ gb140) := ⟨h12_⟩; have n13_ : Aside0 (gb148 ≠ gb177) := ⟨h13_⟩; have n14_ : Aside0 (gb177 ≠ gb148) := ⟨h14_⟩; have n15_ : Aside0 (gb158 ≠ gb177) := ⟨h15_⟩; have n16_ : Aside0 (gb177 ≠ gb158) := ⟨h16_⟩; have n17_ : Aside0 (Below w.heap.size w w99) := ⟨h17_⟩; clear BK131; clear BK140; clear BK148; clear BK158
                clear HB; clear h0_ h1_ h2_ h3_ h4_ h5_ h6_ h7_ h8_ h9_ h10_ h11_ h12_ h13_ h14_ h15_ h16_ h17_; have HO167 := n0_; have HO170 := n1_; have BK131 := n2_; have BK140 := n3_; have BK148 := n4_; have BK158 := n5_; have BK177 := n6_; have GW177 := n7_; have GE177 := n8_; have NB131_177 := n9_; have NB177_131 := n10_; have NB140_177 := n11_; have NB177_140 := n12_; have NB148_177 := n13_; have NB177_148 := n14_; have NB158_177 := n15_; have NB177_158 := n16_; have HB := n17_; clear n0_ n1_ n2_ n3_ n4_ n5_ n6_ n7_ n8_ n9_ n10_ n11_ n12_ n13_ n14_ n15_ n16_ n17_; have hHeld : w99.cell? ⟨gb131, 0, none⟩ = some (.slice A0_0 l0_0.length c0_0) ∧ w99.cell? ⟨gb131, 1, none⟩ = some (.int .i64 a0_1) := hS_
                refine norm_ (a' := ?_) ?_ ?_
                rotate_left
                ·simp only [putAll, Act.put, List.setIfInBounds_toArray, List.set_cons_zero, List.set_cons_succ]
                 rfl
                refine one_ (i := 13) (N := none) #[true, true, true, true, true, true, true, true, true, true, true, true, true, true, false, false] rfl rfl (one_of HT_.out (by kernel_rfl)) (by decide) (fun K hK => ?_)
                have hs100 : w99.cell? ⟨gb177, 0, none⟩ = some (.int .i64 0) := (blk_cell BK177.out 0).trans rfl; have hfs100 := blk_frozen BK177.out 0; have hns100_0 := NB131_177.out; have hns100_1 := NB140_177.out; have hns100_2 := NB148_177.out; have hns100_3 := NB158_177.out; have hms100_0 := NB177_131.out; have hms100_1 := NB177_140.out; have hms100_2 := NB177_148.out; have hms100_3 := NB177_158.out; have hs101 : w99.cell? ⟨gb177, 1, none⟩ = some (.int .i64 0) := (blk_cell BK177.out 1).trans rfl; have hfs101 := blk_frozen BK177.out 1; have hns101_0 := NB131_177.out; have hns101_1 := NB140_177.out; have hns101_2 := NB148_177.out; have hns101_3 := NB158_177.out; have hms101_0 := NB177_131.out; have hms101_1 := NB177_140.out; have hms101_2 := NB177_148.out; have hms101_3 := NB177_158.out; have hs102 : w99.cell? ⟨gb177, 2, none⟩ = some (.int .i64 0) := (blk_cell BK177.out 2).trans rfl; have hfs102 := blk_frozen BK177.out 2; have hns102_0 := NB131_177.out; have hns102_1 := NB140_177.out; have hns102_2 := NB148_177.out; have hns102_3 := NB158_177.out; have hms102_0 := NB177_131.out; have hms102_1 := NB177_140.out; have hms102_2 := NB177_148.out; have hms102_3 := NB177_158.out; have hs103 : w99.cell? ⟨gb177, 3, none⟩ = some (.bool false) := (blk_cell BK177.out 3).trans rfl; have hfs103 := blk_frozen BK177.out 3; have hns103_0 := NB131_177.out; have hns103_1 := NB140_177.out; have hns103_2 := NB148_177.out; have hns103_3 := NB158_177.out; have hms103_0 := NB177_131.out
                have hms103_1 := NB177_140.out; have hms103_2 := NB177_148.out; have hms103_3 := NB177_158.out
                refine skip_ (w1 := ?_) (by rfl) rfl ?_ ?_
                rotate_left
                ·go_simp
                 rfl
                refine hK.out _ _ ⟨((cell_far (p := ⟨gb177, _, none⟩) NB131_177.out _).trans (((cell_far (p := ⟨gb177, _, none⟩) NB131_177.out _).trans (((cell_far (p := ⟨gb177, _, none⟩) NB131_177.out _).trans (((cell_far (p := ⟨gb177, _, none⟩) NB131_177.out _).trans (hHeld.1)))))))), ((cell_far (p := ⟨gb177, _, none⟩) NB131_177.out _).trans (((cell_far (p := ⟨gb177, _, none⟩) NB131_177.out _).trans (((cell_far (p := ⟨gb177, _, none⟩) NB131_177.out _).trans (((cell_far (p := ⟨gb177, _, none⟩) NB131_177.out _).trans (hHeld.2))))))))⟩ (fun hHeld => ?_)
                clear hK K
                refine pure_ (i := 14) (N := some 23) (v := ?_) (a' := ?_) #[true, true, true, true, true, true, true, true, true, true, true, true, true, true, true, false] rfl rfl (any_of HT_.out (by kernel_rfl)) (fun _ _ _ h => h) (Or.inl ⟨by rfl, ?_⟩) ?_ ?_
                rotate_left
                ·intro w'
                 go_simp
                 with_reducible rfl
                rotate_left
                ·simp only [Act.put, List.setIfInBounds_toArray, List.set_cons_zero, List.set_cons_succ, i64_w, i32_w]
                 rfl
                refine pure_ (i := 15) (N := some 24) (v := ?_) (a' := ?_) #[true, true, true, true, true, true, true, true, true, true, true, true, true, true, true, true] rfl rfl (any_of HT_.out (by kernel_rfl)) (fun _ _ _ h => h) (Or.inl ⟨by rfl, ?_⟩) ?_ ?_
                rotate_left
                ·intro w'
                 go_simp
                 with_reducible rfl
                rotate_left
                ·simp only [Act.put, List.setIfInBounds_toArray, List.set_cons_zero, List.set_cons_succ, i64_w, i32_w]
                 rfl
                refine done_ (done_of HT_.out (by kernel_rfl)) ?_
                have hnb104 := NB177_131.out; have hnc104 := NB131_177.out; have hnb105 := NB177_140.out; have hnc105 := NB140_177.out; have hnb106 := NB177_148.out; have hnc106 := NB148_177.out; have hnb107 := NB177_158.out; have hnc107 := NB158_177.out; have hcz108_0 : w99.cell? ⟨gb177, 0, none⟩ = some (.int .i64 0) := (blk_cell BK177.out 0).trans rfl; have hcz108_1 : w99.cell? ⟨gb177, 1, none⟩ = some (.int .i64 0) := (blk_cell BK177.out 1).trans rfl; have hcz108_2 : w99.cell? ⟨gb177, 2, none⟩ = some (.int .i64 0) := (blk_cell BK177.out 2).trans rfl; have hcz108_3 : w99.cell? ⟨gb177, 3, none⟩ = some (.bool false) := (blk_cell BK177.out 3).trans rfl; have hfz108_0 := blk_frozen BK177.out 0; have hfz108_1 := blk_frozen BK177.out 1; have hfz108_2 := blk_frozen BK177.out 2; have hfz108_3 := blk_frozen BK177.out 3; have hcz109_0 : w99.cell? ⟨gb158, 0, none⟩ = some (.int .i64 t153) := (blk_cell BK158.out 0).trans rfl; have hcz109_1 : w99.cell? ⟨gb158, 1, none⟩ = some (.int .i64 t154) := (blk_cell BK158.out 1).trans rfl; have hcz109_2 : w99.cell? ⟨gb158, 2, none⟩ = some (.int .i64 t155) := (blk_cell BK158.out 2).trans rfl; have hcz109_3 : w99.cell? ⟨gb158, 3, none⟩ = some (.bool t156) := (blk_cell BK158.out 3).trans rfl; have hfz109_0 := blk_frozen BK158.out 0; have hfz109_1 := blk_frozen BK158.out 1; have hfz109_2 := blk_frozen BK158.out 2; have hfz109_3 := blk_frozen BK158.out 3
                by_cases c72 : t157 = 0
                ·rw [if_pos c72] at H
                 have c72b0 : (t157 == 0) = true := beq_iff_eq.mpr c72; have c72b1 : (t157 != 0) = false := bne_eq_false_iff_eq.mpr c72; clear c72
                 by_cases c73 : t132 = true
                 ·subst c73
                  have H1 : (if t176 = 0 then (if t175 = (wrap64 ((l1.length : Int) + 1)) then (some (t171 == t153 && (t172 == t154 && (t173 == t155 && (t174 == t156))))) else (some false)) else (some false)) = some r := by rw [if_pos rfl] at H; exact H
                  clear H; have H := H1; clear H1
                  by_cases c74 : t176 = 0
                  ·rw [if_pos c74] at H
                   have c74b0 : (t176 == 0) = true := beq_iff_eq.mpr c74; have c74b1 : (t176 != 0) = false := bne_eq_false_iff_eq.mpr c74; clear c74
                   by_cases c75 : t175 = (wrap64 ((l1.length : Int) + 1))
                   ·rw [if_pos c75] at H
                    have c75b0 : (t175 == (wrap64 ((l1.length : Int) + 1))) = true := beq_iff_eq.mpr c75; have c75b1 : (t175 != (wrap64 ((l1.length : Int) + 1))) = false := bne_eq_false_iff_eq.mpr c75; clear c75; obtain rfl := Option.some.inj H
                    try go_wp2
                    go_ret
                    exact ⟨by first | rfl | (simp [errW_none, errW_some] <;> rfl) | (simp only [← hji19]; first | rfl | (simp [errW_none, errW_some] <;> rfl)) | (simp [*, errW_none, errW_some] <;> rfl), by repeat (first | (with_reducible first | exact HB.out | apply below_alloc | apply pw_below_drewN | apply below_drew1 | refine below_set ?_ GE131.out | refine below_set ?_ GE140.out | refine below_set ?_ GE148.out | refine below_set ?_ GE158.out | refine below_set ?_ GE177.out) | exact HB.out)⟩
                   ·rw [if_neg c75] at H
                    have c75b0 : (t175 == (wrap64 ((l1.length : Int) + 1))) = false := beq_eq_false_iff_ne.mpr c75; have c75b1 : (t175 != (wrap64 ((l1.length : Int) + 1))) = true := bne_iff_ne.mpr c75
                    exact absurd ((Option.some.inj H).trans HTru_.out) (by decide)
                  ·rw [if_neg c74] at H
                   have c74b0 : (t176 == 0) = false := beq_eq_false_iff_ne.mpr c74; have c74b1 : (t176 != 0) = true := bne_iff_ne.mpr c74
                   exact absurd ((Option.some.inj H).trans HTru_.out) (by decide)
                 ·replace c73 := Bool.eq_false_iff.mpr c73
                  subst c73
                  have H1 : (some false) = some r := by rw [if_neg (show ¬ (false = true) by decide)] at H; exact H
                  clear H; have H := H1; clear H1
                  exact absurd ((Option.some.inj H).trans HTru_.out) (by decide)
                ·rw [if_neg c72] at H
                 have c72b0 : (t157 == 0) = false := beq_eq_false_iff_ne.mpr c72; have c72b1 : (t157 != 0) = true := bne_iff_ne.mpr c72
                 by_cases c110 : t132 = true
                 ·subst c110
                  have H1 : (if t176 = t157 then (some (t175 == (l1.length : Int))) else (some false)) = some r := by rw [if_pos rfl] at H; exact H
                  clear H; have H := H1; clear H1
                  by_cases c111 : t176 = t157
                  ·rw [if_pos c111] at H
                   have c111b0 : (t176 == t157) = true := beq_iff_eq.mpr c111; have c111b1 : (t176 != t157) = false := bne_eq_false_iff_eq.mpr c111; clear c111; obtain rfl := Option.some.inj H
                   try go_wp2
                   go_ret
                   exact ⟨by first | rfl | (simp [errW_none, errW_some] <;> rfl) | (simp only [← hji19]; first | rfl | (simp [errW_none, errW_some] <;> rfl)) | (simp [*, errW_none, errW_some] <;> rfl), by repeat (first | (with_reducible first | exact HB.out | apply below_alloc | apply pw_below_drewN | apply below_drew1 | refine below_set ?_ GE131.out | refine below_set ?_ GE140.out | refine below_set ?_ GE148.out | refine below_set ?_ GE158.out | refine below_set ?_ GE177.out) | exact HB.out)⟩
                  ·rw [if_neg c111] at H
                   have c111b0 : (t176 == t157) = false := beq_eq_false_iff_ne.mpr c111; have c111b1 : (t176 != t157) = true := bne_iff_ne.mpr c111
                   exact absurd ((Option.some.inj H).trans HTru_.out) (by decide)
                 ·replace c110 := Bool.eq_false_iff.mpr c110
                  subst c110
                  have H1 : (some false) = some r := by rw [if_neg (show ¬ (false = true) by decide)] at H; exact H
                  clear H; have H := H1; clear H1
                  exact absurd ((Option.some.inj H).trans HTru_.out) (by decide)
               ·rw [if_neg c70] at H
                exact absurd H (by simp)
              ·rw [if_neg c69] at H
               exact absurd H (by simp)
       ·rw [if_neg c21] at H
        exact absurd H (by simp)
      ·rw [if_neg c20] at H
       exact absurd H (by simp)
    ·rw [if_neg c17] at H
     have c17b0 : (t139 == 0) = false := beq_eq_false_iff_ne.mpr c17; have c17b1 : (t139 != 0) = true := bne_iff_ne.mpr c17
     by_cases c140 : t132 = true
     ·subst c140
      have H1 : (if (t134 == 0 && (t135 == 0 && (t136 == 0 && (!t137)))) = true then (if t138 ≥ 0 then (some (decide (t138 ≤ (l1.length : Int)))) else (some false)) else (some false)) = some r := by rw [if_pos rfl] at H; exact H
      clear H; have H := H1; clear H1
      by_cases c141 : (t134 == 0 && (t135 == 0 && (t136 == 0 && (!t137)))) = true
      ·rw [if_pos c141] at H
       have c141b0 : (t134 == 0 && (t135 == 0 && (t136 == 0 && (!t137)))) = true := c141
       (try (have c141b1 : decide (t134 = 0 && (t135 == 0 && (t136 == 0 && (!t137)))) = true := by simpa using c141))
       (try (have c141b2 : (t134 == 0 && (t135 == 0 && (t136 == 0 && (!t137)))) = true := by simpa using c141))
       clear c141
       by_cases c142 : t138 ≥ 0
       ·rw [if_pos c142] at H
        have c142b0 : decide (0 ≤ t138) = true := decide_eq_true c142; clear c142; obtain rfl := Option.some.inj H; have hcz143_0 : wc.cell? ⟨gb131, 0, none⟩ = some (.slice A0_0 l0_0.length c0_0) := (blk_cell BK131.out 0).trans rfl; have hcz143_1 : wc.cell? ⟨gb131, 1, none⟩ = some (.int .i64 a0_1) := (blk_cell BK131.out 1).trans rfl; have hfz143_0 := blk_frozen BK131.out 0; have hfz143_1 := blk_frozen BK131.out 1
        go_wp2_with (first | ((with_reducible refine gate_callee (f := 11) rfl ?_); refine goesL_ (some 38) rfl rfl Try.func11 (by kernel_rfl) rfl #[.agg #[.slice A0_0 l0_0.length c0_0, .int .i64 a0_1], .slice A1 l1.length c1] rfl (by (try simp only [List.map_toArray, List.map_cons, List.map_nil]); first | done | rfl | (simp only [List.length_drop, List.length_take]; rfl)) ?_; (with_reducible refine (cadence_Replay.calls kj5 _ _ l0_0 a0_1 _ _ l1 t134 t135 t136 t137 t138 t139 _ ?side1 ?side2 ?side3 ?side4 A16.out).mono ?_); (case side1 => repeat (first | exact (Kd.C_below HR0_0.out HB.out) | (with_reducible refine Kd.C_alloc ?_ _) | (with_reducible refine Kd.C_drewN ?_ _) | (with_reducible refine Kd.C_drew ?_))); (case side2 => exact HC0_0.out); (case side3 => repeat (first | exact (Kd.C_below HR1.out HB.out) | (with_reducible refine Kd.C_alloc ?_ _) | (with_reducible refine Kd.C_drewN ?_ _) | (with_reducible refine Kd.C_drew ?_))); (case side4 => exact HC1.out); rintro e w144 ⟨rfl, hb⟩; refine ⟨_, rfl, ?_⟩; have n0_ := Aside0.mk (blk_below (g := gb131) (o := .cells #[.slice A0_0 l0_0.length c0_0, .int .i64 a0_1] 24 (0, 0)) (by (with_reducible repeat (first | refine blk_drewN ?_ _ | refine blk_drew ?_ | refine blk_alloc ?_ _)); exact BK131.out) hb); have n1_ := Aside0.mk (below_step (by repeat (first | (with_reducible first | exact HB.out | apply below_alloc | apply pw_below_drewN | apply below_drew1 | refine below_set ?_ GE131.out) | exact HB.out)) hb); clear BK131; clear HB; have BK131 := n0_; have HB := n1_; clear n0_ n1_; (try clear hb); (try clear hb2); (try clear hk); (try clear hi)) | ((with_reducible refine gate_dst (N := 10) rfl ?_); (try (refine gate_guard (by rfl) ?_; dsimp only)); refine box_event ?hg (N := 10) ?hd (cs := #[.int .i64 0, .int .i64 0, .int .i64 0, .bool false]) (t := 30) ?hr ?_; (case hd => rfl); (case hg => rfl); (case hr => first | (go_simp; done) | (go_simp; rfl)); intro gb140 hg w145 hbox hb; have n0_ := Aside0.mk (blk_below (g := gb131) (o := .cells #[.slice A0_0 l0_0.length c0_0, .int .i64 a0_1] 24 (0, 0)) (by (with_reducible repeat (first | refine blk_drewN ?_ _ | refine blk_drew ?_ | refine blk_alloc ?_ _)); exact BK131.out) hb); have n1_ := Aside0.mk (below_step (by repeat (first | (with_reducible first | exact HB.out | apply below_alloc | apply pw_below_drewN | apply below_drew1 | refine below_set ?_ GE131.out) | exact HB.out)) hb); have n2_ := Aside0.mk (hbox); have n3_ := Aside0.mk ((by rw [hg]; exact (below_size (by repeat (first | (with_reducible first | exact HB.out | apply below_alloc | apply pw_below_drewN | apply below_drew1 | refine below_set ?_ GE131.out) | exact HB.out))) : w.heap.size ≤ gb140)); have n4_ := Aside0.mk ((by rw [hg]; exact (below_size (by repeat (first | (with_reducible first | exact HB.out | apply below_alloc | apply pw_below_drewN | apply below_drew1 | refine below_set ?_ GE131.out) | exact HB.out))) : w.heap.size ≤ gb140)); have n5_ := Aside0.mk ((by rw [hg]; exact Nat.ne_of_lt (blk_lt (g := gb131) (o := .cells #[.slice A0_0 l0_0.length c0_0, .int .i64 a0_1] 24 (0, 0)) (by (with_reducible repeat (first | refine blk_drewN ?_ _ | refine blk_drew ?_ | refine blk_alloc ?_ _)); exact BK131.out)) : gb131 ≠ gb140)); have n6_ := Aside0.mk ((by rw [hg]; exact Nat.ne_of_gt (blk_lt (g := gb131) (o := .cells #[.slice A0_0 l0_0.length c0_0, .int .i64 a0_1] 24 (0, 0)) (by (with_reducible repeat (first | refine blk_drewN ?_ _ | refine blk_drew ?_ | refine blk_alloc ?_ _)); exact BK131.out)) : gb140 ≠ gb131)); clear BK131; clear HB; have BK131 := n0_; have HB := n1_; have BK140 := n2_; have GW140 := n3_; have GE140 := n4_; have NB131_140 := n5_; have NB140_131 := n6_; clear n0_ n1_ n2_ n3_ n4_ n5_ n6_; clear hb hbox hg; have hnb146 := NB140_131.out; have hnc146 := NB131_140.out; have hcz147_0 : w145.cell? ⟨gb140, 0, none⟩ = some (.int .i64 0) := (blk_cell BK140.out 0).trans rfl; have hcz147_1 : w145.cell? ⟨gb140, 1, none⟩ = some (.int .i64 0) := (blk_cell BK140.out 1).trans rfl; have hcz147_2 : w145.cell? ⟨gb140, 2, none⟩ = some (.int .i64 0) := (blk_cell BK140.out 2).trans rfl; have hcz147_3 : w145.cell? ⟨gb140, 3, none⟩ = some (.bool false) := (blk_cell BK140.out 3).trans rfl; have hfz147_0 := blk_frozen BK140.out 0; have hfz147_1 := blk_frozen BK140.out 1; have hfz147_2 := blk_frozen BK140.out 2; have hfz147_3 := blk_frozen BK140.out 3))
        go_ret
        exact ⟨by first | rfl | (simp [errW_none, errW_some] <;> rfl) | (simp [*, errW_none, errW_some] <;> rfl), by repeat (first | (with_reducible first | exact HB.out | apply below_alloc | apply pw_below_drewN | apply below_drew1 | refine below_set ?_ GE131.out | refine below_set ?_ GE140.out) | exact HB.out)⟩
       ·rw [if_neg c142] at H
        have c142b0 : decide (0 ≤ t138) = false := decide_eq_false c142; clear c142
        exact absurd ((Option.some.inj H).trans HTru_.out) (by decide)
      ·rw [if_neg c141] at H
       have c141b0 : (t134 == 0 && (t135 == 0 && (t136 == 0 && (!t137)))) = false := by simpa using c141
       (try (have c141b1 : decide (t134 = 0 && (t135 == 0 && (t136 == 0 && (!t137)))) = false := by simpa using c141))
       (try (have c141b2 : (t134 == 0 && (t135 == 0 && (t136 == 0 && (!t137)))) = false := by simpa using c141))
       (try (have c141b3 : ¬ (t134 = 0 && (t135 == 0 && (t136 == 0 && (!t137)))) := by simpa using c141))
       clear c141
       exact absurd ((Option.some.inj H).trans HTru_.out) (by decide)
     ·replace c140 := Bool.eq_false_iff.mpr c140
      subst c140
      have H1 : (some false) = some r := by rw [if_neg (show ¬ (false = true) by decide)] at H; exact H
      clear H; have H := H1; clear H1
      exact absurd ((Option.some.inj H).trans HTru_.out) (by decide)

end Go.Proofs.Ytefaemikfihdeaa.Px
