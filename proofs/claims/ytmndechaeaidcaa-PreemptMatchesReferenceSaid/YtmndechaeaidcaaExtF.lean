/- Allow, walked. -/
import Derived.Test.YtmndechaeaidcaaExtE
import Derived.Deep.DeepCutAuto
import Derived.Deep.CutBlock
namespace Go.Proofs.Ytmndechaeaidcaa.Px
open Go.RowKit Go.Proofs.YtmndechaeaidcaaW.PrintWords Go.Proofs.YtmndechaeaidcaaW.PrintLast Go.Proofs.YtmndechaeaidcaaW.PrintMore
attribute [local go_sem] max2_int min2_int max_two min_two max_three min_three max_four min_four World.size_setCell
attribute [local go_sem ↓] Go.wp_at_zero Go.wp_at_succ
set_option linter.unusedVariables false
set_option linter.unusedSimpArgs false
theorem take_snoc (l : List S37) (j : Nat) (h : j < l.length) : l.take (j + 1) = l.take j ++ [rd_T37 l (j : Int)] := by
  rw [List.take_succ_eq_append_getElem h]
  simp [rd_T37, List.getD, h]
set_option maxHeartbeats 2000000 in
theorem preempt_Allow.calls (k : Nat) (A0 : Option Addr) (c0 : Nat) (l0 : List (S37)) (a1 : Int) (a2 : Int) (a3 : Int) (a4 : Int) (r : Int) (w : World) (hr0 : Kd.C k37 w A0 l0.length l0) (hc0 : l0.length ≤ c0) (h : preempt_Allow.f k l0 a1 a2 a3 a4 = some r) :
    Calls Try.prog 14 #[.slice A0 l0.length c0, .int .i64 a1, .int .i64 a2, .int .i64 a3, .int .i64 a4] w fun e w' => e = .returned (.int .i64 r) ∧ Below w.heap.size w w' := by
  have hmax := Kd.C_max hr0
  obtain ⟨K, hK⟩ := valid_ev l0 hmax
  have hV := Aside0.mk (hK K (Nat.le_refl _))
  have hL := Aside0.mk (limits_f a1 a2)
  have HR := Aside0.mk hr0
  have HC := Aside0.mk hc0
  have hh := Aside0.mk (Option.some.inj h)
  clear hr0 hc0 h hK
  have hu37 := Try.underlying37
  have hu46 := Try.underlying46
  by_cases bV : (VL l0) = true
  · have hvV := Aside0.mk bV
    clear bV
    by_cases bN : (decide (l0.length < 200)) = true
    · have hvN := Aside0.mk bN
      clear bN
      by_cases bL : (LM a1 a2) = true
      · have hvL := Aside0.mk bL
        clear bL
        by_cases bA : (decide (0 ≤ a3 ∧ a3 ≤ 38399)) = true
        · have hvA := Aside0.mk bA
          clear bA
          by_cases bC : (decide (0 ≤ a4 ∧ a4 ≤ 1000)) = true
          · have hvC := Aside0.mk bC
            clear bC
            obtain ⟨ho_, hl_⟩ := VL_ok hvV.out
            obtain ⟨w1_, w2_, w3_, w4_⟩ := LM_bd hvL.out
            have a3b := of_decide_eq_true hvA.out
            have a4b := of_decide_eq_true hvC.out
            obtain ⟨a3_, a3__⟩ := a3b
            obtain ⟨a4_, a4__⟩ := a4b
            have hr : r = (if 0 < l0.length ∧ a3 < (rd_T37 l0 ((l0.length : Int) - 1)).f0 then 13 else if sumC (keep (a3 - a1) l0) + a4 > a2 then 23 else 0) := by
              have := hh.out
              rw [hvV.out, hvN.out, hvL.out, hvA.out, hvC.out] at this
              simp only [Bool.true_and, if_true] at this
              exact this.symm
            have hres := Aside0.mk hr
            have ho := Aside0.mk ho_
            have hl := Aside0.mk hl_
            clear hr ho_ hl_ hh
            have hN1 : decide ((200 : Int) ≤ (l0.length : Int)) = false := decide_eq_false (by have := of_decide_eq_true hvN.out; omega)
            go_enter Try.func14, Try.ntmps14
            go_wp2_with fail
            refine (preempt_valid.calls K _ _ l0 true _ (Kd.C_below HR.out (by repeat (with_reducible first | exact Below.refl _ _ | (refine below_set ?_ (by first | omega | exact Nat.le_refl _)) | apply below_alloc | apply pw_below_drewN | apply below_drew1))) HC.out (hV.out.trans (congrArg some hvV.out))).mono ?_
            rintro e wV ⟨rfl, hbV⟩
            go_wp2_with fail
            refine (preempt_limits.calls a1 a2 true _ (hL.out.trans (congrArg some hvL.out))).mono ?_
            rintro e wL ⟨rfl, hbL_⟩
            have hbL := hbL_.below
            clear hbL_
            go_wp2_with fail
            refine (preempt_in.calls a3 38399 true _ ((in_f a3 38399).trans (congrArg some hvA.out))).mono ?_
            rintro e wA ⟨rfl, hbA_⟩
            have hbA := hbA_.below
            clear hbA_
            go_wp2_with fail
            refine (preempt_in.calls a4 1000 true _ ((in_f a4 1000).trans (congrArg some hvC.out))).mono ?_
            rintro e wC ⟨rfl, hbC_⟩
            have hbC := hbC_.below
            clear hbC_
            have HBB := Aside0.mk (show Below w.heap.size w wC from (below_step (below_step (below_step hbV hbL) hbA) hbC))
            clear hbV hbL hbA hbC
            have hsz : w.heap.size ≤ wC.heap.size := HBB.out.size
            go_wp2_with fail
            obtain ⟨B, hBe_⟩ : ∃ B, B = wC.heap.size := ⟨_, rfl⟩
            rw [← hBe_]
            have hB0 := blk_new wC (.cells #[.slice none 0 0, .int .i64 a1, .int .i64 0] 46)
            rw [← hBe_] at hB0
            have hBW : w.heap.size ≤ B := by omega
            have HX := Aside0.mk (show (wC.alloc (.cells #[.slice none 0 0, .int .i64 a1, .int .i64 0] 46)).heap[B]? = some (.cells #[.slice none 0 0, .int .i64 a1, .int .i64 (sumC [])] 46 (0, 0)) from hB0)
            have HY := Aside0.mk (HBB.out.alloc hsz (.cells #[.slice none 0 0, .int .i64 a1, .int .i64 0] 46))
            clear hB0 HBB hBe_
            go_loopg [43] l0.length (fun kq v43 w' => ∃ (j : Nat) (v : Value), v43 = .int .i64 (j : Int) ∧ Aside0 (w'.heap[B]? = some (.cells #[v, .int .i64 a1, .int .i64 (sumC (l0.take j))] 46 (0, 0))) ∧ Aside0 (RowT w' w.heap.size v (l0.take j)) ∧ Aside0 (Below w.heap.size w w') ∧ Aside0 (j + kq = l0.length))
            case atStart => exact ⟨0, _, rfl, HX, ⟨RowT.nil _ _⟩, HY, ⟨by omega⟩⟩
            case round =>
              clear HX HY
              obtain ⟨j, v, rfl, HX, HRow, HB, HF⟩ := hrel
              obtain ⟨wk, rfl⟩ : ∃ wk, wk = wr := ⟨_, rfl⟩
              have zB := blk_lt HX.out
              have hsw : w.heap.size ≤ wk.heap.size := HB.out.size
              by_cases hj : j < l0.length
              · have hjb : decide (j < l0.length) = true := decide_eq_true hj
                have hjn := Aside0.mk hj
                have hj0 : (0 : Int) ≤ (j : Int) := by omega
                have hj1 : (j : Int) < (l0.length : Int) := by omega
                obtain ⟨ad, e_, hx0, hx1⟩ := at_T37 (Kd.C_below HR.out HB.out) (j : Int) hj0 hj1
                subst e_
                simp only [Int.toNat_natCast] at hx0 hx1
                have hox := ho.out.rd hj0 hj1
                have htk := Aside0.mk (take_snoc l0 j hj)
                generalize hxg_ : rd_T37 l0 (j : Int) = x at hx0 hx1 hox htk
                clear hj hxg_
                obtain ⟨p1, p2, p3, p4⟩ := hox
                have hcl : (l0.take j).length ≤ 200 := by have h2_ := hl.out; rw [List.length_take]; omega
                have hsb := sumC_bd (l := l0.take j) (fun y hy => ho.out y (List.mem_of_mem_take hy))
                obtain ⟨q1, q2⟩ := hsb
                have q3 : sumC (l0.take j) ≤ 200000 := by omega
                have hcl' := Aside0.mk hcl
                clear hcl q2
                go_wp2_with fail
                refine (add_calls _ w.heap.size B a1 (sumC (l0.take j)) x v (l0.take j) (blk_alloc HX.out _) (HRow.out.below (by repeat (with_reducible first | exact Below.refl _ _ | (refine below_set ?_ (by first | omega | exact Nat.le_refl _)) | apply below_alloc | apply pw_below_drewN | apply below_drew1))) (by simp; omega) (by have h_ := hcl'.out; omega) q1 (by omega) p3 p4).mono ?_
                rintro e w1 ⟨rfl, hadd⟩
                have hadd' := Aside0.mk hadd
                clear hadd
                go_wp2
                go_roundg (gk - 1)
                case measure => have h_ := HF.out; have h2_ := hjn.out; omega
                case rel =>
                  obtain ⟨v2, hB2, hR2, hbel, hkeep⟩ := hadd'.out
                  have hbW : Below w.heap.size wk w1 := ((Below.refl _ _).alloc hsw _).trans (hbel w.heap.size hBW (fun k_ hk_ => (HRow.out.own k_ hk_).1) (by simp; omega))
                  rw [← sumC_snoc, ← htk.out] at hB2
                  rw [← htk.out] at hR2
                  exact ⟨j + 1, v2, rfl, ⟨hB2⟩, ⟨hR2⟩, ⟨HB.out.trans hbW⟩, ⟨by have h_ := HF.out; have h2_ := hjn.out; omega⟩⟩
              · have hjb : decide (j < l0.length) = false := decide_eq_false hj
                have htk : l0.take j = l0 := List.take_of_length_le (by omega)
                rw [htk] at HX HRow
                clear hj htk
                by_cases hn : 0 < l0.length
                · have hnb : decide ((0 : Int) < (l0.length : Int)) = true := decide_eq_true (by omega)
                  have hi0 : (0 : Int) ≤ (l0.length : Int) - 1 := by omega
                  have hi1 : (l0.length : Int) - 1 < (l0.length : Int) := by omega
                  obtain ⟨ad, e_, hx0, hx1⟩ := at_T37 (Kd.C_below HR.out HB.out) ((l0.length : Int) - 1) hi0 hi1
                  subst e_
                  have ht1 : ((l0.length : Int) - 1).toNat = l0.length - 1 := by omega
                  have hy0 := hx0
                  rw [ht1] at hy0
                  clear hx1 ht1
                  generalize hxg_ : rd_T37 l0 ((l0.length : Int) - 1) = x at hx0 hy0 hres
                  have hnn := Aside0.mk hn
                  clear hxg_ hn
                  by_cases hlt : a3 < x.f0
                  · have hres' := Aside0.mk (hres.out.trans (if_pos ⟨hnn.out, hlt⟩))
                    have hltb : decide (a3 < x.f0) = true := decide_eq_true hlt
                    go_wp2
                    go_ret
                    exact ⟨by rw [hres'.out]; rfl, HB.out⟩
                  · have hres' := Aside0.mk (hres.out.trans (if_neg (fun h_ => hlt h_.2)))
                    have hltb : decide (a3 < x.f0) = false := decide_eq_false hlt
                    clear hlt
                    go_wp2_with fail
                    obtain ⟨s, hs_⟩ : ∃ s, s = sumC (keep (a3 - a1) l0) := ⟨_, rfl⟩
                    have hsb := sumC_bd (keep_ok (t := a3 - a1) ho.out)
                    rw [← hs_] at hsb
                    have hsl := keep_len (a3 - a1) l0
                    obtain ⟨s0, s1⟩ := hsb
                    have s2 : s ≤ 200000 := by have h_ := hl.out; omega
                    clear s1 hsl
                    refine (at_calls _ w.heap.size B a1 a3 v l0 HX.out HRow.out (by have h_ := hl.out; omega) ho.out a3_ a3__ w1_ w2_).mono ?_
                    rintro e w2 ⟨he, hat⟩
                    rw [← hs_] at he
                    subst he
                    have hres2 := hres'.out
                    rw [← hs_] at hres2
                    have hres3 := Aside0.mk hres2
                    obtain ⟨v', _, _, hg⟩ := hat
                    have hfin := Aside0.mk (HB.out.grown hg HB.out.size (fun k_ hk_ => by injection hk_ with hk_; omega))
                    clear hs_ hg hres2
                    by_cases hq : s + a4 > a2
                    · have hq' : a2 < s + a4 := hq
                      have hqb : decide (a2 < s + a4) = true := decide_eq_true hq
                      have hre := Aside0.mk (hres3.out.trans (if_pos hq))
                      go_wp2
                      go_ret
                      exact ⟨by rw [hre.out]; rfl, hfin.out⟩
                    · have hqb : decide (a2 < s + a4) = false := decide_eq_false hq
                      have hre := Aside0.mk (hres3.out.trans (if_neg hq))
                      go_wp2
                      go_ret
                      exact ⟨by rw [hre.out]; rfl, hfin.out⟩
                · have hnb : decide ((0 : Int) < (l0.length : Int)) = false := decide_eq_false (by omega)
                  have hnc : decide (0 < l0.length) = false := decide_eq_false hn
                  have hnd : ¬ (0 : Int) < (l0.length : Int) := by omega
                  have hnb' : l0.length = 0 := by omega
                  have hres' := Aside0.mk (hres.out.trans (if_neg (fun h_ => hn h_.1)))
                  have hnn := Aside0.mk hnb'
                  clear hn hnb'
                  go_wp2_with fail
                  obtain ⟨s, hs_⟩ : ∃ s, s = sumC (keep (a3 - a1) l0) := ⟨_, rfl⟩
                  have hsb := sumC_bd (keep_ok (t := a3 - a1) ho.out)
                  rw [← hs_] at hsb
                  have hsl := keep_len (a3 - a1) l0
                  obtain ⟨s0, s1⟩ := hsb
                  have s2 : s ≤ 200000 := by have h_ := hl.out; omega
                  clear s1 hsl
                  refine (at_calls _ w.heap.size B a1 a3 v l0 HX.out HRow.out (by have h_ := hl.out; omega) ho.out a3_ a3__ w1_ w2_).mono ?_
                  rintro e w2 ⟨he, hat⟩
                  rw [← hs_] at he
                  subst he
                  have hres2 := hres'.out
                  rw [← hs_] at hres2
                  have hres3 := Aside0.mk hres2
                  obtain ⟨v', _, _, hg⟩ := hat
                  have hfin := Aside0.mk (HB.out.grown hg HB.out.size (fun k_ hk_ => by injection hk_ with hk_; omega))
                  clear hs_ hg hres2
                  by_cases hq : s + a4 > a2
                  · have hq' : a2 < s + a4 := hq
                    have hqb : decide (a2 < s + a4) = true := decide_eq_true hq
                    have hre := Aside0.mk (hres3.out.trans (if_pos hq))
                    go_wp2
                    go_ret
                    exact ⟨by rw [hre.out]; rfl, hfin.out⟩
                  · have hqb : decide (a2 < s + a4) = false := decide_eq_false hq
                    have hre := Aside0.mk (hres3.out.trans (if_neg hq))
                    go_wp2
                    go_ret
                    exact ⟨by rw [hre.out]; rfl, hfin.out⟩
          · have hvC := Aside0.mk (show (decide (0 ≤ a4 ∧ a4 ≤ 1000)) = false by simpa using bC)
            clear bC
            have hr : r = 1 := by
              have := hh.out
              rw [hvV.out, hvN.out, hvL.out, hvA.out, hvC.out] at this
              simpa using this.symm
            subst hr
            clear hh
            have hN1 : decide ((200 : Int) ≤ (l0.length : Int)) = false := decide_eq_false (by have := of_decide_eq_true hvN.out; omega)
            go_enter Try.func14, Try.ntmps14
            go_wp2_with fail
            refine (preempt_valid.calls K _ _ l0 true _ (Kd.C_below HR.out (by repeat (with_reducible first | exact Below.refl _ _ | (refine below_set ?_ (by first | omega | exact Nat.le_refl _)) | apply below_alloc | apply pw_below_drewN | apply below_drew1))) HC.out (hV.out.trans (congrArg some hvV.out))).mono ?_
            rintro e wV ⟨rfl, hbV⟩
            go_wp2_with fail
            refine (preempt_limits.calls a1 a2 true _ (hL.out.trans (congrArg some hvL.out))).mono ?_
            rintro e wL ⟨rfl, hbL_⟩
            have hbL := hbL_.below
            clear hbL_
            go_wp2_with fail
            refine (preempt_in.calls a3 38399 true _ ((in_f a3 38399).trans (congrArg some hvA.out))).mono ?_
            rintro e wA ⟨rfl, hbA_⟩
            have hbA := hbA_.below
            clear hbA_
            go_wp2_with fail
            refine (preempt_in.calls a4 1000 false _ ((in_f a4 1000).trans (congrArg some hvC.out))).mono ?_
            rintro e wC ⟨rfl, hbC_⟩
            have hbC := hbC_.below
            clear hbC_
            have HBB := Aside0.mk (show Below w.heap.size w wC from (below_step (below_step (below_step hbV hbL) hbA) hbC))
            clear hbV hbL hbA hbC
            go_wp2
            go_ret
            exact ⟨rfl, HBB.out⟩
        · have hvA := Aside0.mk (show (decide (0 ≤ a3 ∧ a3 ≤ 38399)) = false by simpa using bA)
          clear bA
          have hr : r = 1 := by
            have := hh.out
            rw [hvV.out, hvN.out, hvL.out, hvA.out] at this
            simpa using this.symm
          subst hr
          clear hh
          have hN1 : decide ((200 : Int) ≤ (l0.length : Int)) = false := decide_eq_false (by have := of_decide_eq_true hvN.out; omega)
          go_enter Try.func14, Try.ntmps14
          go_wp2_with fail
          refine (preempt_valid.calls K _ _ l0 true _ (Kd.C_below HR.out (by repeat (with_reducible first | exact Below.refl _ _ | (refine below_set ?_ (by first | omega | exact Nat.le_refl _)) | apply below_alloc | apply pw_below_drewN | apply below_drew1))) HC.out (hV.out.trans (congrArg some hvV.out))).mono ?_
          rintro e wV ⟨rfl, hbV⟩
          go_wp2_with fail
          refine (preempt_limits.calls a1 a2 true _ (hL.out.trans (congrArg some hvL.out))).mono ?_
          rintro e wL ⟨rfl, hbL_⟩
          have hbL := hbL_.below
          clear hbL_
          go_wp2_with fail
          refine (preempt_in.calls a3 38399 false _ ((in_f a3 38399).trans (congrArg some hvA.out))).mono ?_
          rintro e wA ⟨rfl, hbA_⟩
          have hbA := hbA_.below
          clear hbA_
          have HBB := Aside0.mk (show Below w.heap.size w wA from (below_step (below_step hbV hbL) hbA))
          clear hbV hbL hbA
          go_wp2
          go_ret
          exact ⟨rfl, HBB.out⟩
      · have hvL := Aside0.mk (show (LM a1 a2) = false by simpa using bL)
        clear bL
        have hr : r = 1 := by
          have := hh.out
          rw [hvV.out, hvN.out, hvL.out] at this
          simpa using this.symm
        subst hr
        clear hh
        have hN1 : decide ((200 : Int) ≤ (l0.length : Int)) = false := decide_eq_false (by have := of_decide_eq_true hvN.out; omega)
        go_enter Try.func14, Try.ntmps14
        go_wp2_with fail
        refine (preempt_valid.calls K _ _ l0 true _ (Kd.C_below HR.out (by repeat (with_reducible first | exact Below.refl _ _ | (refine below_set ?_ (by first | omega | exact Nat.le_refl _)) | apply below_alloc | apply pw_below_drewN | apply below_drew1))) HC.out (hV.out.trans (congrArg some hvV.out))).mono ?_
        rintro e wV ⟨rfl, hbV⟩
        go_wp2_with fail
        refine (preempt_limits.calls a1 a2 false _ (hL.out.trans (congrArg some hvL.out))).mono ?_
        rintro e wL ⟨rfl, hbL_⟩
        have hbL := hbL_.below
        clear hbL_
        have HBB := Aside0.mk (show Below w.heap.size w wL from (below_step hbV hbL))
        clear hbV hbL
        go_wp2
        go_ret
        exact ⟨rfl, HBB.out⟩
    · have hvN := Aside0.mk (show (decide (l0.length < 200)) = false by simpa using bN)
      clear bN
      have hr : r = 1 := by
        have := hh.out
        rw [hvV.out, hvN.out] at this
        simpa using this.symm
      subst hr
      clear hh
      have hN1 : decide ((200 : Int) ≤ (l0.length : Int)) = true := decide_eq_true (by have := of_decide_eq_false hvN.out; omega)
      go_enter Try.func14, Try.ntmps14
      go_wp2_with fail
      refine (preempt_valid.calls K _ _ l0 true _ (Kd.C_below HR.out (by repeat (with_reducible first | exact Below.refl _ _ | (refine below_set ?_ (by first | omega | exact Nat.le_refl _)) | apply below_alloc | apply pw_below_drewN | apply below_drew1))) HC.out (hV.out.trans (congrArg some hvV.out))).mono ?_
      rintro e wV ⟨rfl, hbV⟩
      have HBB := Aside0.mk (show Below w.heap.size w wV from hbV)
      clear hbV
      go_wp2
      go_ret
      exact ⟨rfl, HBB.out⟩
  · have hvV := Aside0.mk (show (VL l0) = false by simpa using bV)
    clear bV
    have hr : r = 1 := by
      have := hh.out
      rw [hvV.out] at this
      simpa using this.symm
    subst hr
    clear hh
    go_enter Try.func14, Try.ntmps14
    go_wp2_with fail
    refine (preempt_valid.calls K _ _ l0 false _ (Kd.C_below HR.out (by repeat (with_reducible first | exact Below.refl _ _ | (refine below_set ?_ (by first | omega | exact Nat.le_refl _)) | apply below_alloc | apply pw_below_drewN | apply below_drew1))) HC.out (hV.out.trans (congrArg some hvV.out))).mono ?_
    rintro e wV ⟨rfl, hbV⟩
    have HBB := Aside0.mk (show Below w.heap.size w wV from hbV)
    clear hbV
    go_wp2
    go_ret
    exact ⟨rfl, HBB.out⟩
end Go.Proofs.Ytmndechaeaidcaa.Px
