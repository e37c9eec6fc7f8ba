-- By a program of this session (a turned copy of the kit's print.py): a function of the translation as a Lean function, and the proof that the code computes it. Lean checks it.
import Derived.Test.YtopbajcnihboiaaPxx0
import Derived.Test.YtopbajcnihboiaaPxx3
import Derived.Test.YtopbajcnihboiaaPxx7
import Derived.Test.YtopbajcnihboiaaPxx8
import Derived.Test.YtopbajcnihboiaaPxx11
import Derived.Test.YtopbajcnihboiaaPxx14
import Derived.Test.YtopbajcnihboiaaExtD
import Derived.Test.YtopbajcnihboiaaExtE
namespace Go.Proofs.Ytopbajcnihboiaa.Px
open Go.RowKit Go.Proofs.YtopbajcnihboiaaW.PrintWords Go.Proofs.YtopbajcnihboiaaW.PrintLast Go.Proofs.YtopbajcnihboiaaW.PrintMore
attribute [local go_sem] max2_int min2_int max_two min_two max_three min_three max_four min_four   -- for this text's walks alone
set_option linter.unusedVariables false
set_option linter.unusedSimpArgs false

/-! ### observatorylaw13_MountMatchesReference: function 3 -/
def observatorylaw13_MountMatchesReference.f (k : Nat) (a0 : Int) (a1 : Int) (l2 : List Int) : Option (Bool) := (observatorylaw13_head.f).bind fun t132 => (if (l2.length : Int) > 60 then (some t132) else ((mount_Reach.f k a1).bind fun bt133 => ((observatoryref13_Reach.f k a1).bind fun bt137 => ((mount_Move.f a0 a1).bind fun bt141 => ((observatoryref13_Move.f k a0 a1).bind fun bt144 => ((mount_Plan.f a0 l2).bind fun bt147 => ((observatoryref13_Plan.f a0 l2).bind fun bt152 => (if t132 = true then ((observatoryref13_Ints.f k bt133.1 bt137.1).bind fun t157 => (if t157 = true then (if bt133.2 = bt137.2 then (if bt141.1 = bt144.1 then (if bt141.2.1 = bt144.2.1 then (if bt141.2.2 = bt144.2.2 then ((observatoryref13_Ints.f k bt147.1 bt152.1).bind fun t158 => (if t158 = true then (if bt147.2.1 = bt152.2.1 then (some (bt147.2.2 == bt152.2.2)) else (some false)) else (some false))) else (some false)) else (some false)) else (some false)) else (some false)) else (some false))) else (some false)))))))))
theorem observatorylaw13_MountMatchesReference.mono : ∀ a0 a1 a2 k, LeO (observatorylaw13_MountMatchesReference.f k a0 a1 a2) (observatorylaw13_MountMatchesReference.f (k + 1) a0 a1 a2) := by
  intro a0 a1 a2 k
  unfold observatorylaw13_MountMatchesReference.f
  repeat' first
      | (with_reducible exact mount_Reach.mono _ _)
      | (with_reducible exact observatoryref13_Ints.mono _ _ _)
      | (with_reducible exact observatoryref13_Move.mono _ _ _)
      | (with_reducible exact observatoryref13_Reach.mono _ _)
      | (with_reducible exact LeO.refl _)
      | (with_reducible exact LeO.none _)
      | (with_reducible refine LeO.ite ?_ ?_)
      | (with_reducible refine LeO.bind ?_ (fun _ => ?_))
      | exact mount_Reach.mono _ _
      | exact observatoryref13_Ints.mono _ _ _
      | exact observatoryref13_Move.mono _ _ _
      | exact observatoryref13_Reach.mono _ _
      | exact LeO.none _
      | refine LeO.ite ?_ ?_
      | refine LeO.bind ?_ (fun _ => ?_)
set_option maxHeartbeats 8000000 in
set_option maxRecDepth 100000 in
theorem observatorylaw13_MountMatchesReference.calls (k : Nat) (a0 : Int) (a1 : Int) (A2 : Option Addr) (c2 : Nat) (l2 : List Int) (r : Bool) (w : World) (hT : r = true) (hr2 : Kd.C (Kd.int .i64) w A2 l2.length l2) (hc2 : l2.length ≤ c2) (h : observatorylaw13_MountMatchesReference.f k a0 a1 l2 = some r) :
    Calls Try.prog 3 #[.int .i64 a0, .int .i64 a1, .slice A2 l2.length c2] w fun e w' => e = .returned (.bool r) ∧ Below w.heap.size w w' := by
  have HR2 := Aside0.mk hr2
  have HC2 := Aside0.mk hc2
  clear hr2 hc2
  have HB := Aside0.mk (Below.refl w.heap.size w)
  have HT_ := Aside0.mk hT
  clear hT
  have H : ((observatorylaw13_head.f).bind fun t132 => (if (l2.length : Int) > 60 then (some t132) else ((mount_Reach.f k a1).bind fun bt133 => ((observatoryref13_Reach.f k a1).bind fun bt137 => ((mount_Move.f a0 a1).bind fun bt141 => ((observatoryref13_Move.f k a0 a1).bind fun bt144 => ((mount_Plan.f a0 l2).bind fun bt147 => ((observatoryref13_Plan.f a0 l2).bind fun bt152 => (if t132 = true then ((observatoryref13_Ints.f k bt133.1 bt137.1).bind fun t157 => (if t157 = true then (if bt133.2 = bt137.2 then (if bt141.1 = bt144.1 then (if bt141.2.1 = bt144.2.1 then (if bt141.2.2 = bt144.2.2 then ((observatoryref13_Ints.f k bt147.1 bt152.1).bind fun t158 => (if t158 = true then (if bt147.2.1 = bt152.2.1 then (some (bt147.2.2 == bt152.2.2)) else (some false)) else (some false))) else (some false)) else (some false)) else (some false)) else (some false)) else (some false))) else (some false)))))))))) = some r := h
  clear h
  replace H := Option.bind_eq_some_iff.mp H
  obtain ⟨t132, A40, H⟩ := H
  replace H : (if (l2.length : Int) > 60 then (some t132) else ((mount_Reach.f k a1).bind fun bt133 => ((observatoryref13_Reach.f k a1).bind fun bt137 => ((mount_Move.f a0 a1).bind fun bt141 => ((observatoryref13_Move.f k a0 a1).bind fun bt144 => ((mount_Plan.f a0 l2).bind fun bt147 => ((observatoryref13_Plan.f a0 l2).bind fun bt152 => (if t132 = true then ((observatoryref13_Ints.f k bt133.1 bt137.1).bind fun t157 => (if t157 = true then (if bt133.2 = bt137.2 then (if bt141.1 = bt144.1 then (if bt141.2.1 = bt144.2.1 then (if bt141.2.2 = bt144.2.2 then ((observatoryref13_Ints.f k bt147.1 bt152.1).bind fun t158 => (if t158 = true then (if bt147.2.1 = bt152.2.1 then (some (bt147.2.2 == bt152.2.2)) else (some false)) else (some false))) else (some false)) else (some false)) else (some false)) else (some false)) else (some false))) else (some false))))))))) = some r := H
  have A4 := Aside0.mk A40
  clear A40
  by_cases c5 : (l2.length : Int) > 60
  · rw [if_pos c5] at H
    have c5b0 : decide (60 < (l2.length : Int)) = true := decide_eq_true c5
    have c5b1 : decide (60 < l2.length) = true := decide_eq_true (by omega)
    clear c5
    obtain rfl := Option.some.inj H
    go_enter Try.func3, Try.ntmps3
    go_wp2_with (first | ((with_reducible refine gate_callee (f := 8) rfl ?_); refine goesL_ (some 24) rfl rfl Try.func8 (by kernel_rfl) rfl #[] rfl (by (try simp only [List.map_toArray, List.map_cons, List.map_nil]); first | done | rfl | (simp only [List.length_drop, List.length_take]; rfl)) ?_; (with_reducible refine (observatorylaw13_head.calls  t132 _ A4.out).mono ?_); rintro e w6 ⟨rfl, hb⟩; refine ⟨_, rfl, ?_⟩; have n0_ := Aside0.mk (below_step (by repeat (first | (with_reducible first | exact HB.out | apply below_alloc | apply pw_below_drewN | apply below_drew1) | exact HB.out)) hb); clear HB; have HB := n0_; clear n0_; (try clear hb); (try clear hb2); (try clear hk); (try clear hi)))
    go_ret
    exact ⟨by first | rfl | (simp [errW_none, errW_some] <;> rfl) | (simp [*, errW_none, errW_some] <;> rfl), by repeat (first | (with_reducible first | exact HB.out | apply below_alloc | apply pw_below_drewN | apply below_drew1) | exact HB.out)⟩
  · rw [if_neg c5] at H
    have c5b0 : decide (60 < (l2.length : Int)) = false := decide_eq_false c5
    have c5b1 : decide (60 < l2.length) = false := decide_eq_false (by omega)
    clear c5
    replace H := Option.bind_eq_some_iff.mp H
    obtain ⟨⟨t133, t134⟩, A70, H⟩ := H
    replace H : ((observatoryref13_Reach.f k a1).bind fun bt137 => ((mount_Move.f a0 a1).bind fun bt141 => ((observatoryref13_Move.f k a0 a1).bind fun bt144 => ((mount_Plan.f a0 l2).bind fun bt147 => ((observatoryref13_Plan.f a0 l2).bind fun bt152 => (if t132 = true then ((observatoryref13_Ints.f k t133 bt137.1).bind fun t157 => (if t157 = true then (if t134 = bt137.2 then (if bt141.1 = bt144.1 then (if bt141.2.1 = bt144.2.1 then (if bt141.2.2 = bt144.2.2 then ((observatoryref13_Ints.f k bt147.1 bt152.1).bind fun t158 => (if t158 = true then (if bt147.2.1 = bt152.2.1 then (some (bt147.2.2 == bt152.2.2)) else (some false)) else (some false))) else (some false)) else (some false)) else (some false)) else (some false)) else (some false))) else (some false))))))) = some r := H
    have A7 := Aside0.mk A70
    clear A70
    replace H := Option.bind_eq_some_iff.mp H
    obtain ⟨⟨t137, t138⟩, A80, H⟩ := H
    replace H : ((mount_Move.f a0 a1).bind fun bt141 => ((observatoryref13_Move.f k a0 a1).bind fun bt144 => ((mount_Plan.f a0 l2).bind fun bt147 => ((observatoryref13_Plan.f a0 l2).bind fun bt152 => (if t132 = true then ((observatoryref13_Ints.f k t133 t137).bind fun t157 => (if t157 = true then (if t134 = t138 then (if bt141.1 = bt144.1 then (if bt141.2.1 = bt144.2.1 then (if bt141.2.2 = bt144.2.2 then ((observatoryref13_Ints.f k bt147.1 bt152.1).bind fun t158 => (if t158 = true then (if bt147.2.1 = bt152.2.1 then (some (bt147.2.2 == bt152.2.2)) else (some false)) else (some false))) else (some false)) else (some false)) else (some false)) else (some false)) else (some false))) else (some false)))))) = some r := H
    have A8 := Aside0.mk A80
    clear A80
    replace H := Option.bind_eq_some_iff.mp H
    obtain ⟨⟨t141, t142, t143⟩, A90, H⟩ := H
    replace H : ((observatoryref13_Move.f k a0 a1).bind fun bt144 => ((mount_Plan.f a0 l2).bind fun bt147 => ((observatoryref13_Plan.f a0 l2).bind fun bt152 => (if t132 = true then ((observatoryref13_Ints.f k t133 t137).bind fun t157 => (if t157 = true then (if t134 = t138 then (if t141 = bt144.1 then (if t142 = bt144.2.1 then (if t143 = bt144.2.2 then ((observatoryref13_Ints.f k bt147.1 bt152.1).bind fun t158 => (if t158 = true then (if bt147.2.1 = bt152.2.1 then (some (bt147.2.2 == bt152.2.2)) else (some false)) else (some false))) else (some false)) else (some false)) else (some false)) else (some false)) else (some false))) else (some false))))) = some r := H
    have A9 := Aside0.mk A90
    clear A90
    replace H := Option.bind_eq_some_iff.mp H
    obtain ⟨⟨t144, t145, t146⟩, A100, H⟩ := H
    replace H : ((mount_Plan.f a0 l2).bind fun bt147 => ((observatoryref13_Plan.f a0 l2).bind fun bt152 => (if t132 = true then ((observatoryref13_Ints.f k t133 t137).bind fun t157 => (if t157 = true then (if t134 = t138 then (if t141 = t144 then (if t142 = t145 then (if t143 = t146 then ((observatoryref13_Ints.f k bt147.1 bt152.1).bind fun t158 => (if t158 = true then (if bt147.2.1 = bt152.2.1 then (some (bt147.2.2 == bt152.2.2)) else (some false)) else (some false))) else (some false)) else (some false)) else (some false)) else (some false)) else (some false))) else (some false)))) = some r := H
    have A10 := Aside0.mk A100
    clear A100
    replace H := Option.bind_eq_some_iff.mp H
    obtain ⟨⟨t147, t148, t149⟩, A110, H⟩ := H
    replace H : ((observatoryref13_Plan.f a0 l2).bind fun bt152 => (if t132 = true then ((observatoryref13_Ints.f k t133 t137).bind fun t157 => (if t157 = true then (if t134 = t138 then (if t141 = t144 then (if t142 = t145 then (if t143 = t146 then ((observatoryref13_Ints.f k t147 bt152.1).bind fun t158 => (if t158 = true then (if t148 = bt152.2.1 then (some (t149 == bt152.2.2)) else (some false)) else (some false))) else (some false)) else (some false)) else (some false)) else (some false)) else (some false))) else (some false))) = some r := H
    have A11 := Aside0.mk A110
    clear A110
    replace H := Option.bind_eq_some_iff.mp H
    obtain ⟨⟨t152, t153, t154⟩, A120, H⟩ := H
    replace H : (if t132 = true then ((observatoryref13_Ints.f k t133 t137).bind fun t157 => (if t157 = true then (if t134 = t138 then (if t141 = t144 then (if t142 = t145 then (if t143 = t146 then ((observatoryref13_Ints.f k t147 t152).bind fun t158 => (if t158 = true then (if t148 = t153 then (some (t149 == t154)) else (some false)) else (some false))) else (some false)) else (some false)) else (some false)) else (some false)) else (some false))) else (some false)) = some r := H
    have A12 := Aside0.mk A120
    clear A120
    by_cases c13 : t132 = true
    · subst c13
      have H1 : ((observatoryref13_Ints.f k t133 t137).bind fun t157 => (if t157 = true then (if t134 = t138 then (if t141 = t144 then (if t142 = t145 then (if t143 = t146 then ((observatoryref13_Ints.f k t147 t152).bind fun t158 => (if t158 = true then (if t148 = t153 then (some (t149 == t154)) else (some false)) else (some false))) else (some false)) else (some false)) else (some false)) else (some false)) else (some false))) = some r := by rw [if_pos rfl] at H; exact H
      clear H
      have H := H1
      clear H1
      replace H := Option.bind_eq_some_iff.mp H
      obtain ⟨t157, A140, H⟩ := H
      replace H : (if t157 = true then (if t134 = t138 then (if t141 = t144 then (if t142 = t145 then (if t143 = t146 then ((observatoryref13_Ints.f k t147 t152).bind fun t158 => (if t158 = true then (if t148 = t153 then (some (t149 == t154)) else (some false)) else (some false))) else (some false)) else (some false)) else (some false)) else (some false)) else (some false)) = some r := H
      have A14 := Aside0.mk A140
      clear A140
      by_cases c15 : t157 = true
      · subst c15
        have H1 : (if t134 = t138 then (if t141 = t144 then (if t142 = t145 then (if t143 = t146 then ((observatoryref13_Ints.f k t147 t152).bind fun t158 => (if t158 = true then (if t148 = t153 then (some (t149 == t154)) else (some false)) else (some false))) else (some false)) else (some false)) else (some false)) else (some false)) = some r := by rw [if_pos rfl] at H; exact H
        clear H
        have H := H1
        clear H1
        by_cases c16 : t134 = t138
        · rw [if_pos c16] at H
          have c16b0 : (t134 == t138) = true := beq_iff_eq.mpr c16
          have c16b1 : (t134 != t138) = false := bne_eq_false_iff_eq.mpr c16
          clear c16
          by_cases c17 : t141 = t144
          · rw [if_pos c17] at H
            have c17b0 : (t141 == t144) = true := beq_iff_eq.mpr c17
            have c17b1 : (t141 != t144) = false := bne_eq_false_iff_eq.mpr c17
            clear c17
            by_cases c18 : t142 = t145
            · rw [if_pos c18] at H
              have c18b0 : (t142 == t145) = true := beq_iff_eq.mpr c18
              have c18b1 : (t142 != t145) = false := bne_eq_false_iff_eq.mpr c18
              clear c18
              by_cases c19 : t143 = t146
              · rw [if_pos c19] at H
                have c19b0 : (t143 == t146) = true := beq_iff_eq.mpr c19
                have c19b1 : (t143 != t146) = false := bne_eq_false_iff_eq.mpr c19
                clear c19
                replace H := Option.bind_eq_some_iff.mp H
                obtain ⟨t158, A200, H⟩ := H
                replace H : (if t158 = true then (if t148 = t153 then (some (t149 == t154)) else (some false)) else (some false)) = some r := H
                have A20 := Aside0.mk A200
                clear A200
                by_cases c21 : t158 = true
                · subst c21
                  have H1 : (if t148 = t153 then (some (t149 == t154)) else (some false)) = some r := by rw [if_pos rfl] at H; exact H
                  clear H
                  have H := H1
                  clear H1
                  by_cases c22 : t148 = t153
                  · rw [if_pos c22] at H
                    have c22b0 : (t148 == t153) = true := beq_iff_eq.mpr c22
                    have c22b1 : (t148 != t153) = false := bne_eq_false_iff_eq.mpr c22
                    clear c22
                    obtain rfl := Option.some.inj H
                    go_enter Try.func3, Try.ntmps3
                    go_wp2_with (first | ((with_reducible refine gate_callee (f := 8) rfl ?_); refine goesL_ (some 24) rfl rfl Try.func8 (by kernel_rfl) rfl #[] rfl (by (try simp only [List.map_toArray, List.map_cons, List.map_nil]); first | done | rfl | (simp only [List.length_drop, List.length_take]; rfl)) ?_; (with_reducible refine (observatorylaw13_head.calls  true _ A4.out).mono ?_); rintro e w23 ⟨rfl, hb⟩; refine ⟨_, rfl, ?_⟩; have n0_ := Aside0.mk (below_step (by repeat (first | (with_reducible first | exact HB.out | apply below_alloc | apply pw_below_drewN | apply below_drew1) | exact HB.out)) hb); clear HB; have HB := n0_; clear n0_; (try clear hb); (try clear hb2); (try clear hk); (try clear hi)) | ((with_reducible refine gate_callee (f := 9) rfl ?_); refine goesL_ (some 31) rfl rfl Try.func9 (by kernel_rfl) rfl #[.int .i64 a1] rfl (by (try simp only [List.map_toArray, List.map_cons, List.map_nil]); first | done | rfl | (simp only [List.length_drop, List.length_take]; rfl)) ?_; (with_reducible refine (mount_Reach.calls k a1 t133 t134 _ A7.out).mono ?_); rintro e w24 ⟨v135, rfl, ho0, hb⟩; refine ⟨_, rfl, ?_⟩; have n0_ := Aside0.mk (Kd.R_lower ho0 (below_size (by repeat (first | (with_reducible first | exact HB.out | apply below_alloc | apply pw_below_drewN | apply below_drew1) | exact HB.out)))); have n1_ := Aside0.mk (below_step (by repeat (first | (with_reducible first | exact HB.out | apply below_alloc | apply pw_below_drewN | apply below_drew1) | exact HB.out)) hb); clear HB; have HO136 := n0_; have HB := n1_; clear n0_ n1_; (try clear hb); (try clear hb2); (try clear hk); (try clear hi); (try clear ho0)) | ((with_reducible refine gate_callee (f := 10) rfl ?_); refine goesL_ (some 36) rfl rfl Try.func10 (by kernel_rfl) rfl #[.int .i64 a1] rfl (by (try simp only [List.map_toArray, List.map_cons, List.map_nil]); first | done | rfl | (simp only [List.length_drop, List.length_take]; rfl)) ?_; (with_reducible refine (observatoryref13_Reach.calls k a1 t137 t138 _ A8.out).mono ?_); rintro e w25 ⟨v139, rfl, ho0, hb⟩; refine ⟨_, rfl, ?_⟩; have n0_ := Aside0.mk (Kd.R_elder' (by (with_reducible repeat (first | apply Kd.R_alloc | apply Kd.R_drewN | apply Kd.R_drew)); exact HO136.out) (Kd.R_base ho0) hb); have n1_ := Aside0.mk (Kd.R_lower (Kd.R_new' ho0 (Kd.R_lt (by (with_reducible repeat (first | apply Kd.R_alloc | apply Kd.R_drewN | apply Kd.R_drew)); exact HO136.out))) (below_size (by repeat (first | (with_reducible first | exact HB.out | apply below_alloc | apply pw_below_drewN | apply below_drew1) | exact HB.out)))); have n2_ := Aside0.mk (below_step (by repeat (first | (with_reducible first | exact HB.out | apply below_alloc | apply pw_below_drewN | apply below_drew1) | exact HB.out)) hb); clear HO136; clear HB; have HO136 := n0_; have HO140 := n1_; have HB := n2_; clear n0_ n1_ n2_; (try clear hb); (try clear hb2); (try clear hk); (try clear hi); (try clear ho0)) | ((with_reducible refine gate_callee (f := 11) rfl ?_); refine goesL_ (some 42) rfl rfl Try.func11 (by kernel_rfl) rfl #[.int .i64 a0, .int .i64 a1] rfl (by (try simp only [List.map_toArray, List.map_cons, List.map_nil]); first | done | rfl | (simp only [List.length_drop, List.length_take]; rfl)) ?_; (with_reducible refine (mount_Move.calls a0 a1 t141 t142 t143 _ A9.out).mono ?_); rintro e w26 ⟨rfl, hb⟩; refine ⟨_, rfl, ?_⟩; have n0_ := Aside0.mk (Kd.R_below (by (with_reducible repeat (first | apply Kd.R_alloc | apply Kd.R_drewN | apply Kd.R_drew)); exact HO136.out) hb); have n1_ := Aside0.mk (Kd.R_below (by (with_reducible repeat (first | apply Kd.R_alloc | apply Kd.R_drewN | apply Kd.R_drew)); exact HO140.out) hb); have n2_ := Aside0.mk (below_step (by repeat (first | (with_reducible first | exact HB.out | apply below_alloc | apply pw_below_drewN | apply below_drew1) | exact HB.out)) hb); clear HO136; clear HO140; clear HB; have HO136 := n0_; have HO140 := n1_; have HB := n2_; clear n0_ n1_ n2_; (try clear hb); (try clear hb2); (try clear hk); (try clear hi)) | ((with_reducible refine gate_callee (f := 12) rfl ?_); refine goesL_ (some 49) rfl rfl Try.func12 (by kernel_rfl) rfl #[.int .i64 a0, .int .i64 a1] rfl (by (try simp only [List.map_toArray, List.map_cons, List.map_nil]); first | done | rfl | (simp only [List.length_drop, List.length_take]; rfl)) ?_; (with_reducible refine (observatoryref13_Move.calls k a0 a1 t144 t145 t146 _ A10.out).mono ?_); rintro e w27 ⟨rfl, hb⟩; refine ⟨_, rfl, ?_⟩; have n0_ := Aside0.mk (Kd.R_below (by (with_reducible repeat (first | apply Kd.R_alloc | apply Kd.R_drewN | apply Kd.R_drew)); exact HO136.out) hb); have n1_ := Aside0.mk (Kd.R_below (by (with_reducible repeat (first | apply Kd.R_alloc | apply Kd.R_drewN | apply Kd.R_drew)); exact HO140.out) hb); have n2_ := Aside0.mk (below_step (by repeat (first | (with_reducible first | exact HB.out | apply below_alloc | apply pw_below_drewN | apply below_drew1) | exact HB.out)) hb); clear HO136; clear HO140; clear HB; have HO136 := n0_; have HO140 := n1_; have HB := n2_; clear n0_ n1_ n2_; (try clear hb); (try clear hb2); (try clear hk); (try clear hi)) | ((with_reducible refine gate_callee (f := 13) rfl ?_); refine goesL_ (some 56) rfl rfl Try.func13 (by kernel_rfl) rfl #[.int .i64 a0, .slice A2 l2.length c2] rfl (by (try simp only [List.map_toArray, List.map_cons, List.map_nil]); first | done | rfl | (simp only [List.length_drop, List.length_take]; rfl)) ?_; (with_reducible refine (mount_Plan.calls a0 _ _ l2 t147 t148 t149 _ ?side1 ?side2 A11.out).mono ?_); (case side1 => repeat (first | exact (Kd.C_below HR2.out HB.out) | (with_reducible refine Kd.C_alloc ?_ _) | (with_reducible refine Kd.C_drewN ?_ _) | (with_reducible refine Kd.C_drew ?_))); (case side2 => exact HC2.out); rintro e w28 ⟨v150, rfl, ho0, hb⟩; refine ⟨_, rfl, ?_⟩; have n0_ := Aside0.mk (Kd.R_elder' (by (with_reducible repeat (first | apply Kd.R_alloc | apply Kd.R_drewN | apply Kd.R_drew)); exact HO136.out) (Kd.R_base ho0) hb); have n1_ := Aside0.mk (Kd.R_elder' (by (with_reducible repeat (first | apply Kd.R_alloc | apply Kd.R_drewN | apply Kd.R_drew)); exact HO140.out) (Kd.R_base ho0) hb); have n2_ := Aside0.mk (Kd.R_lower (Kd.R_new' (Kd.R_new' ho0 (Kd.R_lt (by (with_reducible repeat (first | apply Kd.R_alloc | apply Kd.R_drewN | apply Kd.R_drew)); exact HO136.out))) (Kd.R_lt (by (with_reducible repeat (first | apply Kd.R_alloc | apply Kd.R_drewN | apply Kd.R_drew)); exact HO140.out))) (below_size (by repeat (first | (with_reducible first | exact HB.out | apply below_alloc | apply pw_below_drewN | apply below_drew1) | exact HB.out)))); have n3_ := Aside0.mk (below_step (by repeat (first | (with_reducible first | exact HB.out | apply below_alloc | apply pw_below_drewN | apply below_drew1) | exact HB.out)) hb); clear HO136; clear HO140; clear HB; have HO136 := n0_; have HO140 := n1_; have HO151 := n2_; have HB := n3_; clear n0_ n1_ n2_ n3_; (try clear hb); (try clear hb2); (try clear hk); (try clear hi); (try clear ho0)) | ((with_reducible refine gate_callee (f := 14) rfl ?_); refine goesL_ (some 63) rfl rfl Try.func14 (by kernel_rfl) rfl #[.int .i64 a0, .slice A2 l2.length c2] rfl (by (try simp only [List.map_toArray, List.map_cons, List.map_nil]); first | done | rfl | (simp only [List.length_drop, List.length_take]; rfl)) ?_; (with_reducible refine (observatoryref13_Plan.calls a0 _ _ l2 t152 t153 t154 _ ?side1 ?side2 A12.out).mono ?_); (case side1 => repeat (first | exact (Kd.C_below HR2.out HB.out) | (with_reducible refine Kd.C_alloc ?_ _) | (with_reducible refine Kd.C_drewN ?_ _) | (with_reducible refine Kd.C_drew ?_))); (case side2 => exact HC2.out); rintro e w29 ⟨v155, rfl, ho0, hb⟩; refine ⟨_, rfl, ?_⟩; have n0_ := Aside0.mk (Kd.R_elder' (by (with_reducible repeat (first | apply Kd.R_alloc | apply Kd.R_drewN | apply Kd.R_drew)); exact HO136.out) (Kd.R_base ho0) hb); have n1_ := Aside0.mk (Kd.R_elder' (by (with_reducible repeat (first | apply Kd.R_alloc | apply Kd.R_drewN | apply Kd.R_drew)); exact HO140.out) (Kd.R_base ho0) hb); have n2_ := Aside0.mk (Kd.R_elder' (by (with_reducible repeat (first | apply Kd.R_alloc | apply Kd.R_drewN | apply Kd.R_drew)); exact HO151.out) (Kd.R_base ho0) hb); have n3_ := Aside0.mk (Kd.R_lower (Kd.R_new' (Kd.R_new' (Kd.R_new' ho0 (Kd.R_lt (by (with_reducible repeat (first | apply Kd.R_alloc | apply Kd.R_drewN | apply Kd.R_drew)); exact HO136.out))) (Kd.R_lt (by (with_reducible repeat (first | apply Kd.R_alloc | apply Kd.R_drewN | apply Kd.R_drew)); exact HO140.out))) (Kd.R_lt (by (with_reducible repeat (first | apply Kd.R_alloc | apply Kd.R_drewN | apply Kd.R_drew)); exact HO151.out))) (below_size (by repeat (first | (with_reducible first | exact HB.out | apply below_alloc | apply pw_below_drewN | apply below_drew1) | exact HB.out)))); have n4_ := Aside0.mk (below_step (by repeat (first | (with_reducible first | exact HB.out | apply below_alloc | apply pw_below_drewN | apply below_drew1) | exact HB.out)) hb); clear HO136; clear HO140; clear HO151; clear HB; have HO136 := n0_; have HO140 := n1_; have HO151 := n2_; have HO156 := n3_; have HB := n4_; clear n0_ n1_ n2_ n3_ n4_; (try clear hb); (try clear hb2); (try clear hk); (try clear hi); (try clear ho0); obtain ⟨Ao30, co30, eo30⟩ := Kd.R_slice HO136.out; subst eo30; obtain ⟨Ao31, co31, eo31⟩ := Kd.R_slice HO140.out; subst eo31) | (go_at_call 15; (with_reducible refine (observatoryref13_Ints.calls k _ _ t133 _ _ t137 true _ ?side1 ?side2 ?side3 ?side4 A14.out).mono ?_); (case side1 => repeat (first | exact (Kd.R_reads' HO136.out).2.2 | (with_reducible refine Kd.C_alloc ?_ _) | (with_reducible refine Kd.C_drewN ?_ _) | (with_reducible refine Kd.C_drew ?_))); (case side2 => exact (Kd.R_reads' HO136.out).2.1); (case side3 => repeat (first | exact (Kd.R_reads' HO140.out).2.2 | (with_reducible refine Kd.C_alloc ?_ _) | (with_reducible refine Kd.C_drewN ?_ _) | (with_reducible refine Kd.C_drew ?_))); (case side4 => exact (Kd.R_reads' HO140.out).2.1); rintro e w' ⟨rfl, ⟨nd, rfl⟩⟩; obtain ⟨Ao32, co32, eo32⟩ := Kd.R_slice HO151.out; subst eo32; obtain ⟨Ao33, co33, eo33⟩ := Kd.R_slice HO156.out; subst eo33) | (go_at_call 15; (with_reducible refine (observatoryref13_Ints.calls k _ _ t147 _ _ t152 true _ ?side1 ?side2 ?side3 ?side4 A20.out).mono ?_); (case side1 => repeat (first | exact (Kd.R_reads' HO151.out).2.2 | (with_reducible refine Kd.C_alloc ?_ _) | (with_reducible refine Kd.C_drewN ?_ _) | (with_reducible refine Kd.C_drew ?_))); (case side2 => exact (Kd.R_reads' HO151.out).2.1); (case side3 => repeat (first | exact (Kd.R_reads' HO156.out).2.2 | (with_reducible refine Kd.C_alloc ?_ _) | (with_reducible refine Kd.C_drewN ?_ _) | (with_reducible refine Kd.C_drew ?_))); (case side4 => exact (Kd.R_reads' HO156.out).2.1); rintro e w' ⟨rfl, ⟨nd, rfl⟩⟩))
                    go_ret
                    exact ⟨by first | rfl | (simp [errW_none, errW_some] <;> rfl) | (simp [*, errW_none, errW_some] <;> rfl), by repeat (first | (with_reducible first | exact HB.out | apply below_alloc | apply pw_below_drewN | apply below_drew1) | exact HB.out)⟩
                  · rw [if_neg c22] at H
                    have c22b0 : (t148 == t153) = false := beq_eq_false_iff_ne.mpr c22
                    have c22b1 : (t148 != t153) = true := bne_iff_ne.mpr c22
                    exact absurd ((Option.some.inj H).trans HT_.out) (by decide)
                · replace c21 := Bool.eq_false_iff.mpr c21
                  subst c21
                  have H1 : (some false) = some r := by rw [if_neg (show ¬ (false = true) by decide)] at H; exact H
                  clear H
                  have H := H1
                  clear H1
                  exact absurd ((Option.some.inj H).trans HT_.out) (by decide)
              · rw [if_neg c19] at H
                have c19b0 : (t143 == t146) = false := beq_eq_false_iff_ne.mpr c19
                have c19b1 : (t143 != t146) = true := bne_iff_ne.mpr c19
                exact absurd ((Option.some.inj H).trans HT_.out) (by decide)
            · rw [if_neg c18] at H
              have c18b0 : (t142 == t145) = false := beq_eq_false_iff_ne.mpr c18
              have c18b1 : (t142 != t145) = true := bne_iff_ne.mpr c18
              exact absurd ((Option.some.inj H).trans HT_.out) (by decide)
          · rw [if_neg c17] at H
            have c17b0 : (t141 == t144) = false := beq_eq_false_iff_ne.mpr c17
            have c17b1 : (t141 != t144) = true := bne_iff_ne.mpr c17
            exact absurd ((Option.some.inj H).trans HT_.out) (by decide)
        · rw [if_neg c16] at H
          have c16b0 : (t134 == t138) = false := beq_eq_false_iff_ne.mpr c16
          have c16b1 : (t134 != t138) = true := bne_iff_ne.mpr c16
          exact absurd ((Option.some.inj H).trans HT_.out) (by decide)
      · replace c15 := Bool.eq_false_iff.mpr c15
        subst c15
        have H1 : (some false) = some r := by rw [if_neg (show ¬ (false = true) by decide)] at H; exact H
        clear H
        have H := H1
        clear H1
        exact absurd ((Option.some.inj H).trans HT_.out) (by decide)
    · replace c13 := Bool.eq_false_iff.mpr c13
      subst c13
      have H1 : (some false) = some r := by rw [if_neg (show ¬ (false = true) by decide)] at H; exact H
      clear H
      have H := H1
      clear H1
      exact absurd ((Option.some.inj H).trans HT_.out) (by decide)

/-- THE ONE PURE STATEMENT of observatorylaw13_MountMatchesReference: yours. -/
def observatorylaw13_MountMatchesReference.Pure : Prop := ∀ (a0 : Int) (a1 : Int) (l2 : List Int), (Lit.int .i64 a0).wf = true → (Lit.int .i64 a1).wf = true → l2.length ≤ maxLen → l2.length * 8 ≤ 140737488351232 → (∀ x ∈ l2, (Lit.int .i64 x).wf = true) → ∃ k, observatorylaw13_MountMatchesReference.f k a0 a1 l2 = some true
theorem observatorylaw13_MountMatchesReference.walk (P : observatorylaw13_MountMatchesReference.Pure) (a0 : Int) (a1 : Int) (a2 : Option Addr) (len2 cap2 : Nat) (z2 : List Int) (w : World) (w0 : (Lit.int .i64 a0).wf = true) (w1 : (Lit.int .i64 a1).wf = true) (w2 : (a2 = none ∧ len2 = 0 ∧ cap2 = 0 ∧ z2 = []) ∨ ∃ x, a2 = some x ∧ len2 ≤ cap2 ∧ cap2 ≤ maxLen ∧ z2.length = cap2 ∧ (∀ i, i < z2.length → w.cell? (x.add i) = some (.int .i64 (z2.getD i 0))) ∧ ∀ n ∈ z2, (Lit.int .i64 n).wf = true) (y2 : len2 * 8 ≤ 140737488351232) :
    Calls Try.prog 3 #[.int .i64 a0, .int .i64 a1, .slice a2 len2 cap2] w fun e w' => e = .returned (.bool true) ∧ Below w.heap.size w w' := by
  obtain ⟨l2, rfl, hr2, hm2, hw2, hc2⟩ := ReadsInt.ofRowC w2
  obtain ⟨k, h⟩ := P a0 a1 l2 w0 w1 hm2 y2 hw2
  refine (observatorylaw13_MountMatchesReference.calls k a0 a1 _ _ l2 true w rfl (Kd.C_of_reads (d := (0 : Int)) (h1 := fun _ => rfl) hr2) hc2 h).mono ?_
  rintro e w' ⟨rfl, hd⟩
  exact ⟨rfl, hd⟩

end Go.Proofs.Ytopbajcnihboiaa.Px
