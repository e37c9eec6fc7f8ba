-- By a program of this session (a turned copy of the kit's print.py): a function of the translation as a Lean function, and the proof that the code computes it. Lean checks it.
import Derived.Test.YtmndechaeaidcaaPxx0
import Derived.Test.YtmndechaeaidcaaPxx9
import Derived.Test.YtmndechaeaidcaaExtI
import Derived.Test.YtmndechaeaidcaaPxx16
import Derived.Test.YtmndechaeaidcaaPxx17
import Derived.Test.YtmndechaeaidcaaPxx18
import Derived.Test.YtmndechaeaidcaaExtH
namespace Go.Proofs.Ytmndechaeaidcaa.Px
open Go.RowKit Go.Proofs.YtmndechaeaidcaaW.PrintWords Go.Proofs.YtmndechaeaidcaaW.PrintLast Go.Proofs.YtmndechaeaidcaaW.PrintMore
attribute [local go_sem] max2_int min2_int max_two min_two max_three min_three max_four min_four   -- for this text's walks alone
set_option linter.unusedVariables false
set_option linter.unusedSimpArgs false

/-! ### observatorylaw40_PreemptMatchesReference: function 3 -/
def observatorylaw40_PreemptMatchesReference.f (k : Nat) (l0 : List (S37)) (a1 : Int) (a2 : Int) (a3 : Int) (a4 : Int) : Option (Bool) := (observatorylaw40_head.f k).bind fun t175 => (if (l0.length : Int) > 210 then (some t175) else ((preempt_Run.f k a1 a2 l0).bind fun bt176 => ((observatoryref40_Run.f k a1 a2 l0).bind fun bt180 => ((preempt_Worst.f k l0 a1).bind fun bt184 => ((observatoryref40_Worst.f k l0 a1).bind fun bt186 => (if t175 = true then ((preempt_Allow.f k l0 a1 a2 a3 a4).bind fun t188 => ((observatoryref40_Allow.f k l0 a1 a2 a3 a4).bind fun t189 => (if t188 = t189 then ((observatoryref40_Bools.f k bt176.1 bt180.1).bind fun t190 => (if t190 = true then (if bt176.2 = bt180.2 then (if bt184.1 = bt186.1 then (some (bt184.2 == bt186.2)) else (some false)) else (some false)) else (some false))) else (some false)))) else (some false)))))))
theorem observatorylaw40_PreemptMatchesReference.mono : ∀ a0 a1 a2 a3 a4 k, LeO (observatorylaw40_PreemptMatchesReference.f k a0 a1 a2 a3 a4) (observatorylaw40_PreemptMatchesReference.f (k + 1) a0 a1 a2 a3 a4) := by
  intro a0 a1 a2 a3 a4 k
  unfold observatorylaw40_PreemptMatchesReference.f
  repeat' first
      | (with_reducible exact observatorylaw40_head.mono _)
      | (with_reducible exact observatoryref40_Allow.mono _ _ _ _ _ _)
      | (with_reducible exact observatoryref40_Bools.mono _ _ _)
      | (with_reducible exact observatoryref40_Run.mono _ _ _ _)
      | (with_reducible exact observatoryref40_Worst.mono _ _ _)
      | (with_reducible exact preempt_Allow.mono _ _ _ _ _ _)
      | (with_reducible exact preempt_Run.mono _ _ _ _)
      | (with_reducible exact preempt_Worst.mono _ _ _)
      | (with_reducible exact LeO.refl _)
      | (with_reducible exact LeO.none _)
      | (with_reducible refine LeO.ite ?_ ?_)
      | (with_reducible refine LeO.bind ?_ (fun _ => ?_))
      | exact observatorylaw40_head.mono _
      | exact observatoryref40_Allow.mono _ _ _ _ _ _
      | exact observatoryref40_Bools.mono _ _ _
      | exact observatoryref40_Run.mono _ _ _ _
      | exact observatoryref40_Worst.mono _ _ _
      | exact preempt_Allow.mono _ _ _ _ _ _
      | exact preempt_Run.mono _ _ _ _
      | exact preempt_Worst.mono _ _ _
      | exact LeO.none _
      | refine LeO.ite ?_ ?_
      | refine LeO.bind ?_ (fun _ => ?_)
set_option maxHeartbeats 8000000 in
set_option maxRecDepth 100000 in
theorem observatorylaw40_PreemptMatchesReference.calls (k : Nat) (A0 : Option Addr) (c0 : Nat) (l0 : List (S37)) (a1 : Int) (a2 : Int) (a3 : Int) (a4 : Int) (r : Bool) (w : World) (hT : r = true) (hr0 : Kd.C k37 w A0 l0.length l0) (hc0 : l0.length ≤ c0) (h : observatorylaw40_PreemptMatchesReference.f k l0 a1 a2 a3 a4 = some r) :
    Calls Try.prog 3 #[.slice A0 l0.length c0, .int .i64 a1, .int .i64 a2, .int .i64 a3, .int .i64 a4] w fun e w' => e = .returned (.bool r) ∧ Below w.heap.size w w' := by
  have HR0 := Aside0.mk hr0
  have HC0 := Aside0.mk hc0
  clear hr0 hc0
  have HB := Aside0.mk (Below.refl w.heap.size w)
  have HT_ := Aside0.mk hT
  clear hT
  have H : ((observatorylaw40_head.f k).bind fun t175 => (if (l0.length : Int) > 210 then (some t175) else ((preempt_Run.f k a1 a2 l0).bind fun bt176 => ((observatoryref40_Run.f k a1 a2 l0).bind fun bt180 => ((preempt_Worst.f k l0 a1).bind fun bt184 => ((observatoryref40_Worst.f k l0 a1).bind fun bt186 => (if t175 = true then ((preempt_Allow.f k l0 a1 a2 a3 a4).bind fun t188 => ((observatoryref40_Allow.f k l0 a1 a2 a3 a4).bind fun t189 => (if t188 = t189 then ((observatoryref40_Bools.f k bt176.1 bt180.1).bind fun t190 => (if t190 = true then (if bt176.2 = bt180.2 then (if bt184.1 = bt186.1 then (some (bt184.2 == bt186.2)) else (some false)) else (some false)) else (some false))) else (some false)))) else (some false)))))))) = some r := h
  clear h
  replace H := Option.bind_eq_some_iff.mp H
  obtain ⟨t175, A60, H⟩ := H
  replace H : (if (l0.length : Int) > 210 then (some t175) else ((preempt_Run.f k a1 a2 l0).bind fun bt176 => ((observatoryref40_Run.f k a1 a2 l0).bind fun bt180 => ((preempt_Worst.f k l0 a1).bind fun bt184 => ((observatoryref40_Worst.f k l0 a1).bind fun bt186 => (if t175 = true then ((preempt_Allow.f k l0 a1 a2 a3 a4).bind fun t188 => ((observatoryref40_Allow.f k l0 a1 a2 a3 a4).bind fun t189 => (if t188 = t189 then ((observatoryref40_Bools.f k bt176.1 bt180.1).bind fun t190 => (if t190 = true then (if bt176.2 = bt180.2 then (if bt184.1 = bt186.1 then (some (bt184.2 == bt186.2)) else (some false)) else (some false)) else (some false))) else (some false)))) else (some false))))))) = some r := H
  have A6 := Aside0.mk A60
  clear A60
  by_cases c7 : (l0.length : Int) > 210
  · rw [if_pos c7] at H
    have c7b0 : decide (210 < (l0.length : Int)) = true := decide_eq_true c7
    have c7b1 : decide (210 < l0.length) = true := decide_eq_true (by omega)
    clear c7
    obtain rfl := Option.some.inj H
    go_enter Try.func3, Try.ntmps3
    go_wp2_with (first | ((with_reducible refine gate_callee (f := 9) rfl ?_); refine goesL_ (some 20) rfl rfl Try.func9 (by kernel_rfl) rfl #[] rfl (by (try simp only [List.map_toArray, List.map_cons, List.map_nil]); first | done | rfl | (simp only [List.length_drop, List.length_take]; rfl)) ?_; (with_reducible refine (observatorylaw40_head.calls k  t175 _ A6.out).mono ?_); rintro e w8 ⟨rfl, hb⟩; refine ⟨_, rfl, ?_⟩; have n0_ := Aside0.mk (below_step (by repeat (first | (with_reducible first | exact HB.out | apply below_alloc | apply pw_below_drewN | apply below_drew1) | exact HB.out)) hb); clear HB; have HB := n0_; clear n0_; (try clear hb); (try clear hb2); (try clear hk); (try clear hi)))
    go_ret
    exact ⟨by first | rfl | (simp [errW_none, errW_some] <;> rfl) | (simp [*, errW_none, errW_some] <;> rfl), by repeat (first | (with_reducible first | exact HB.out | apply below_alloc | apply pw_below_drewN | apply below_drew1) | exact HB.out)⟩
  · rw [if_neg c7] at H
    have c7b0 : decide (210 < (l0.length : Int)) = false := decide_eq_false c7
    have c7b1 : decide (210 < l0.length) = false := decide_eq_false (by omega)
    clear c7
    replace H := Option.bind_eq_some_iff.mp H
    obtain ⟨⟨t176, t177⟩, A90, H⟩ := H
    replace H : ((observatoryref40_Run.f k a1 a2 l0).bind fun bt180 => ((preempt_Worst.f k l0 a1).bind fun bt184 => ((observatoryref40_Worst.f k l0 a1).bind fun bt186 => (if t175 = true then ((preempt_Allow.f k l0 a1 a2 a3 a4).bind fun t188 => ((observatoryref40_Allow.f k l0 a1 a2 a3 a4).bind fun t189 => (if t188 = t189 then ((observatoryref40_Bools.f k t176 bt180.1).bind fun t190 => (if t190 = true then (if t177 = bt180.2 then (if bt184.1 = bt186.1 then (some (bt184.2 == bt186.2)) else (some false)) else (some false)) else (some false))) else (some false)))) else (some false))))) = some r := H
    have A9 := Aside0.mk A90
    clear A90
    replace H := Option.bind_eq_some_iff.mp H
    obtain ⟨⟨t180, t181⟩, A100, H⟩ := H
    replace H : ((preempt_Worst.f k l0 a1).bind fun bt184 => ((observatoryref40_Worst.f k l0 a1).bind fun bt186 => (if t175 = true then ((preempt_Allow.f k l0 a1 a2 a3 a4).bind fun t188 => ((observatoryref40_Allow.f k l0 a1 a2 a3 a4).bind fun t189 => (if t188 = t189 then ((observatoryref40_Bools.f k t176 t180).bind fun t190 => (if t190 = true then (if t177 = t181 then (if bt184.1 = bt186.1 then (some (bt184.2 == bt186.2)) else (some false)) else (some false)) else (some false))) else (some false)))) else (some false)))) = some r := H
    have A10 := Aside0.mk A100
    clear A100
    replace H := Option.bind_eq_some_iff.mp H
    obtain ⟨⟨t184, t185⟩, A110, H⟩ := H
    replace H : ((observatoryref40_Worst.f k l0 a1).bind fun bt186 => (if t175 = true then ((preempt_Allow.f k l0 a1 a2 a3 a4).bind fun t188 => ((observatoryref40_Allow.f k l0 a1 a2 a3 a4).bind fun t189 => (if t188 = t189 then ((observatoryref40_Bools.f k t176 t180).bind fun t190 => (if t190 = true then (if t177 = t181 then (if t184 = bt186.1 then (some (t185 == bt186.2)) else (some false)) else (some false)) else (some false))) else (some false)))) else (some false))) = some r := H
    have A11 := Aside0.mk A110
    clear A110
    replace H := Option.bind_eq_some_iff.mp H
    obtain ⟨⟨t186, t187⟩, A120, H⟩ := H
    replace H : (if t175 = true then ((preempt_Allow.f k l0 a1 a2 a3 a4).bind fun t188 => ((observatoryref40_Allow.f k l0 a1 a2 a3 a4).bind fun t189 => (if t188 = t189 then ((observatoryref40_Bools.f k t176 t180).bind fun t190 => (if t190 = true then (if t177 = t181 then (if t184 = t186 then (some (t185 == t187)) else (some false)) else (some false)) else (some false))) else (some false)))) else (some false)) = some r := H
    have A12 := Aside0.mk A120
    clear A120
    by_cases c13 : t175 = true
    · subst c13
      have H1 : ((preempt_Allow.f k l0 a1 a2 a3 a4).bind fun t188 => ((observatoryref40_Allow.f k l0 a1 a2 a3 a4).bind fun t189 => (if t188 = t189 then ((observatoryref40_Bools.f k t176 t180).bind fun t190 => (if t190 = true then (if t177 = t181 then (if t184 = t186 then (some (t185 == t187)) else (some false)) else (some false)) else (some false))) else (some false)))) = some r := by rw [if_pos rfl] at H; exact H
      clear H
      have H := H1
      clear H1
      replace H := Option.bind_eq_some_iff.mp H
      obtain ⟨t188, A140, H⟩ := H
      replace H : ((observatoryref40_Allow.f k l0 a1 a2 a3 a4).bind fun t189 => (if t188 = t189 then ((observatoryref40_Bools.f k t176 t180).bind fun t190 => (if t190 = true then (if t177 = t181 then (if t184 = t186 then (some (t185 == t187)) else (some false)) else (some false)) else (some false))) else (some false))) = some r := H
      have A14 := Aside0.mk A140
      clear A140
      replace H := Option.bind_eq_some_iff.mp H
      obtain ⟨t189, A150, H⟩ := H
      replace H : (if t188 = t189 then ((observatoryref40_Bools.f k t176 t180).bind fun t190 => (if t190 = true then (if t177 = t181 then (if t184 = t186 then (some (t185 == t187)) else (some false)) else (some false)) else (some false))) else (some false)) = some r := H
      have A15 := Aside0.mk A150
      clear A150
      by_cases c16 : t188 = t189
      · rw [if_pos c16] at H
        have c16b0 : (t188 == t189) = true := beq_iff_eq.mpr c16
        have c16b1 : (t188 != t189) = false := bne_eq_false_iff_eq.mpr c16
        clear c16
        replace H := Option.bind_eq_some_iff.mp H
        obtain ⟨t190, A170, H⟩ := H
        replace H : (if t190 = true then (if t177 = t181 then (if t184 = t186 then (some (t185 == t187)) else (some false)) else (some false)) else (some false)) = some r := H
        have A17 := Aside0.mk A170
        clear A170
        by_cases c18 : t190 = true
        · subst c18
          have H1 : (if t177 = t181 then (if t184 = t186 then (some (t185 == t187)) else (some false)) else (some false)) = some r := by rw [if_pos rfl] at H; exact H
          clear H
          have H := H1
          clear H1
          by_cases c19 : t177 = t181
          · rw [if_pos c19] at H
            have c19b0 : (t177 == t181) = true := beq_iff_eq.mpr c19
            have c19b1 : (t177 != t181) = false := bne_eq_false_iff_eq.mpr c19
            clear c19
            by_cases c20 : t184 = t186
            · rw [if_pos c20] at H
              have c20b0 : (t184 == t186) = true := beq_iff_eq.mpr c20
              have c20b1 : (t184 != t186) = false := bne_eq_false_iff_eq.mpr c20
              clear c20
              obtain rfl := Option.some.inj H
              go_enter Try.func3, Try.ntmps3
              go_wp2_with (first | ((with_reducible refine gate_callee (f := 9) rfl ?_); refine goesL_ (some 20) rfl rfl Try.func9 (by kernel_rfl) rfl #[] rfl (by (try simp only [List.map_toArray, List.map_cons, List.map_nil]); first | done | rfl | (simp only [List.length_drop, List.length_take]; rfl)) ?_; (with_reducible refine (observatorylaw40_head.calls k  true _ A6.out).mono ?_); rintro e w21 ⟨rfl, hb⟩; refine ⟨_, rfl, ?_⟩; have n0_ := Aside0.mk (below_step (by repeat (first | (with_reducible first | exact HB.out | apply below_alloc | apply pw_below_drewN | apply below_drew1) | exact HB.out)) hb); clear HB; have HB := n0_; clear n0_; (try clear hb); (try clear hb2); (try clear hk); (try clear hi)) | ((with_reducible refine gate_callee (f := 10) rfl ?_); refine goesL_ (some 29) rfl rfl Try.func10 (by kernel_rfl) rfl #[.int .i64 a1, .int .i64 a2, .slice A0 l0.length c0] rfl (by (try simp only [List.map_toArray, List.map_cons, List.map_nil]); first | done | rfl | (simp only [List.length_drop, List.length_take]; rfl)) ?_; (with_reducible refine (preempt_Run.calls k a1 a2 _ _ l0 t176 t177 _ ?side1 ?side2 A9.out).mono ?_); (case side1 => repeat (first | exact (Kd.C_below HR0.out HB.out) | (with_reducible refine Kd.C_alloc ?_ _) | (with_reducible refine Kd.C_drewN ?_ _) | (with_reducible refine Kd.C_drew ?_))); (case side2 => exact HC0.out); rintro e w22 ⟨v178, rfl, ho0, hb⟩; refine ⟨_, rfl, ?_⟩; have n0_ := Aside0.mk (Kd.R_lower ho0 (below_size (by repeat (first | (with_reducible first | exact HB.out | apply below_alloc | apply pw_below_drewN | apply below_drew1) | exact HB.out)))); have n1_ := Aside0.mk (below_step (by repeat (first | (with_reducible first | exact HB.out | apply below_alloc | apply pw_below_drewN | apply below_drew1) | exact HB.out)) hb); clear HB; have HO179 := n0_; have HB := n1_; clear n0_ n1_; (try clear hb); (try clear hb2); (try clear hk); (try clear hi); (try clear ho0)) | ((with_reducible refine gate_callee (f := 11) rfl ?_); refine goesL_ (some 36) rfl rfl Try.func11 (by kernel_rfl) rfl #[.int .i64 a1, .int .i64 a2, .slice A0 l0.length c0] rfl (by (try simp only [List.map_toArray, List.map_cons, List.map_nil]); first | done | rfl | (simp only [List.length_drop, List.length_take]; rfl)) ?_; (with_reducible refine (observatoryref40_Run.calls k a1 a2 _ _ l0 t180 t181 _ ?side1 ?side2 A10.out).mono ?_); (case side1 => repeat (first | exact (Kd.C_below HR0.out HB.out) | (with_reducible refine Kd.C_alloc ?_ _) | (with_reducible refine Kd.C_drewN ?_ _) | (with_reducible refine Kd.C_drew ?_))); (case side2 => exact HC0.out); rintro e w23 ⟨v182, rfl, ho0, hb⟩; refine ⟨_, rfl, ?_⟩; have n0_ := Aside0.mk (Kd.R_elder' (by (with_reducible repeat (first | apply Kd.R_alloc | apply Kd.R_drewN | apply Kd.R_drew)); exact HO179.out) (Kd.R_base ho0) hb); have n1_ := Aside0.mk (Kd.R_lower (Kd.R_new' ho0 (Kd.R_lt (by (with_reducible repeat (first | apply Kd.R_alloc | apply Kd.R_drewN | apply Kd.R_drew)); exact HO179.out))) (below_size (by repeat (first | (with_reducible first | exact HB.out | apply below_alloc | apply pw_below_drewN | apply below_drew1) | exact HB.out)))); have n2_ := Aside0.mk (below_step (by repeat (first | (with_reducible first | exact HB.out | apply below_alloc | apply pw_below_drewN | apply below_drew1) | exact HB.out)) hb); clear HO179; clear HB; have HO179 := n0_; have HO183 := n1_; have HB := n2_; clear n0_ n1_ n2_; (try clear hb); (try clear hb2); (try clear hk); (try clear hi); (try clear ho0)) | ((with_reducible refine gate_callee (f := 12) rfl ?_); refine goesL_ (some 42) rfl rfl Try.func12 (by kernel_rfl) rfl #[.slice A0 l0.length c0, .int .i64 a1] rfl (by (try simp only [List.map_toArray, List.map_cons, List.map_nil]); first | done | rfl | (simp only [List.length_drop, List.length_take]; rfl)) ?_; (with_reducible refine (preempt_Worst.calls k _ _ l0 a1 t184 t185 _ ?side1 ?side2 A11.out).mono ?_); (case side1 => repeat (first | exact (Kd.C_below HR0.out HB.out) | (with_reducible refine Kd.C_alloc ?_ _) | (with_reducible refine Kd.C_drewN ?_ _) | (with_reducible refine Kd.C_drew ?_))); (case side2 => exact HC0.out); rintro e w24 ⟨rfl, hb⟩; refine ⟨_, rfl, ?_⟩; have n0_ := Aside0.mk (Kd.R_below (by (with_reducible repeat (first | apply Kd.R_alloc | apply Kd.R_drewN | apply Kd.R_drew)); exact HO179.out) hb); have n1_ := Aside0.mk (Kd.R_below (by (with_reducible repeat (first | apply Kd.R_alloc | apply Kd.R_drewN | apply Kd.R_drew)); exact HO183.out) hb); have n2_ := Aside0.mk (below_step (by repeat (first | (with_reducible first | exact HB.out | apply below_alloc | apply pw_below_drewN | apply below_drew1) | exact HB.out)) hb); clear HO179; clear HO183; clear HB; have HO179 := n0_; have HO183 := n1_; have HB := n2_; clear n0_ n1_ n2_; (try clear hb); (try clear hb2); (try clear hk); (try clear hi)) | ((with_reducible refine gate_callee (f := 13) rfl ?_); refine goesL_ (some 48) rfl rfl Try.func13 (by kernel_rfl) rfl #[.slice A0 l0.length c0, .int .i64 a1] rfl (by (try simp only [List.map_toArray, List.map_cons, List.map_nil]); first | done | rfl | (simp only [List.length_drop, List.length_take]; rfl)) ?_; (with_reducible refine (observatoryref40_Worst.calls k _ _ l0 a1 t186 t187 _ ?side1 ?side2 A12.out).mono ?_); (case side1 => repeat (first | exact (Kd.C_below HR0.out HB.out) | (with_reducible refine Kd.C_alloc ?_ _) | (with_reducible refine Kd.C_drewN ?_ _) | (with_reducible refine Kd.C_drew ?_))); (case side2 => exact HC0.out); rintro e w25 ⟨rfl, hb⟩; refine ⟨_, rfl, ?_⟩; have n0_ := Aside0.mk (Kd.R_below (by (with_reducible repeat (first | apply Kd.R_alloc | apply Kd.R_drewN | apply Kd.R_drew)); exact HO179.out) hb); have n1_ := Aside0.mk (Kd.R_below (by (with_reducible repeat (first | apply Kd.R_alloc | apply Kd.R_drewN | apply Kd.R_drew)); exact HO183.out) hb); have n2_ := Aside0.mk (below_step (by repeat (first | (with_reducible first | exact HB.out | apply below_alloc | apply pw_below_drewN | apply below_drew1) | exact HB.out)) hb); clear HO179; clear HO183; clear HB; have HO179 := n0_; have HO183 := n1_; have HB := n2_; clear n0_ n1_ n2_; (try clear hb); (try clear hb2); (try clear hk); (try clear hi)) | (go_at_call 14; (with_reducible refine (preempt_Allow.calls k _ _ l0 a1 a2 a3 a4 t188 _ ?side1 ?side2 A14.out).mono ?_); (case side1 => repeat (first | exact (Kd.C_below HR0.out HB.out) | (with_reducible refine Kd.C_alloc ?_ _) | (with_reducible refine Kd.C_drewN ?_ _) | (with_reducible refine Kd.C_drew ?_))); (case side2 => exact HC0.out); rintro e w26 ⟨rfl, hb⟩; have n0_ := Aside0.mk (Kd.R_below (by (with_reducible repeat (first | apply Kd.R_alloc | apply Kd.R_drewN | apply Kd.R_drew)); exact HO179.out) hb); have n1_ := Aside0.mk (Kd.R_below (by (with_reducible repeat (first | apply Kd.R_alloc | apply Kd.R_drewN | apply Kd.R_drew)); exact HO183.out) hb); have n2_ := Aside0.mk (below_step (by repeat (first | (with_reducible first | exact HB.out | apply below_alloc | apply pw_below_drewN | apply below_drew1) | exact HB.out)) hb); clear HO179; clear HO183; clear HB; have HO179 := n0_; have HO183 := n1_; have HB := n2_; clear n0_ n1_ n2_; (try clear hb); (try clear hb2); (try clear hk); (try clear hi)) | (go_at_call 15; (with_reducible refine (observatoryref40_Allow.calls k _ _ l0 a1 a2 a3 a4 t189 _ ?side1 ?side2 A15.out).mono ?_); (case side1 => repeat (first | exact (Kd.C_below HR0.out HB.out) | (with_reducible refine Kd.C_alloc ?_ _) | (with_reducible refine Kd.C_drewN ?_ _) | (with_reducible refine Kd.C_drew ?_))); (case side2 => exact HC0.out); rintro e w27 ⟨rfl, hb⟩; have n0_ := Aside0.mk (Kd.R_below (by (with_reducible repeat (first | apply Kd.R_alloc | apply Kd.R_drewN | apply Kd.R_drew)); exact HO179.out) hb); have n1_ := Aside0.mk (Kd.R_below (by (with_reducible repeat (first | apply Kd.R_alloc | apply Kd.R_drewN | apply Kd.R_drew)); exact HO183.out) hb); have n2_ := Aside0.mk (below_step (by repeat (first | (with_reducible first | exact HB.out | apply below_alloc | apply pw_below_drewN | apply below_drew1) | exact HB.out)) hb); clear HO179; clear HO183; clear HB; have HO179 := n0_; have HO183 := n1_; have HB := n2_; clear n0_ n1_ n2_; (try clear hb); (try clear hb2); (try clear hk); (try clear hi); obtain ⟨Ao28, co28, eo28⟩ := Kd.R_slice HO179.out; subst eo28; obtain ⟨Ao29, co29, eo29⟩ := Kd.R_slice HO183.out; subst eo29) | (go_at_call 16; (with_reducible refine (observatoryref40_Bools.calls k _ _ t176 _ _ t180 true _ ?side1 ?side2 ?side3 ?side4 A17.out).mono ?_); (case side1 => repeat (first | exact (Kd.R_reads' HO179.out).2.2 | (with_reducible refine Kd.C_alloc ?_ _) | (with_reducible refine Kd.C_drewN ?_ _) | (with_reducible refine Kd.C_drew ?_))); (case side2 => exact (Kd.R_reads' HO179.out).2.1); (case side3 => repeat (first | exact (Kd.R_reads' HO183.out).2.2 | (with_reducible refine Kd.C_alloc ?_ _) | (with_reducible refine Kd.C_drewN ?_ _) | (with_reducible refine Kd.C_drew ?_))); (case side4 => exact (Kd.R_reads' HO183.out).2.1); rintro e w' ⟨rfl, ⟨nd, rfl⟩⟩))
              go_ret
              exact ⟨by first | rfl | (simp [errW_none, errW_some] <;> rfl) | (simp [*, errW_none, errW_some] <;> rfl), by repeat (first | (with_reducible first | exact HB.out | apply below_alloc | apply pw_below_drewN | apply below_drew1) | exact HB.out)⟩
            · rw [if_neg c20] at H
              have c20b0 : (t184 == t186) = false := beq_eq_false_iff_ne.mpr c20
              have c20b1 : (t184 != t186) = true := bne_iff_ne.mpr c20
              exact absurd ((Option.some.inj H).trans HT_.out) (by decide)
          · rw [if_neg c19] at H
            have c19b0 : (t177 == t181) = false := beq_eq_false_iff_ne.mpr c19
            have c19b1 : (t177 != t181) = true := bne_iff_ne.mpr c19
            exact absurd ((Option.some.inj H).trans HT_.out) (by decide)
        · replace c18 := Bool.eq_false_iff.mpr c18
          subst c18
          have H1 : (some false) = some r := by rw [if_neg (show ¬ (false = true) by decide)] at H; exact H
          clear H
          have H := H1
          clear H1
          exact absurd ((Option.some.inj H).trans HT_.out) (by decide)
      · rw [if_neg c16] at H
        have c16b0 : (t188 == t189) = false := beq_eq_false_iff_ne.mpr c16
        have c16b1 : (t188 != t189) = true := bne_iff_ne.mpr c16
        exact absurd ((Option.some.inj H).trans HT_.out) (by decide)
    · replace c13 := Bool.eq_false_iff.mpr c13
      subst c13
      have H1 : (some false) = some r := by rw [if_neg (show ¬ (false = true) by decide)] at H; exact H
      clear H
      have H := H1
      clear H1
      exact absurd ((Option.some.inj H).trans HT_.out) (by decide)

end Go.Proofs.Ytmndechaeaidcaa.Px
