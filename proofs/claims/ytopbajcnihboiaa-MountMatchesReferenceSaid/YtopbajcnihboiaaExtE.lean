/- The laws' head, the chapter's examples: walked by hand. -/
import Derived.Test.YtopbajcnihboiaaExtC
import Derived.Test.YtopbajcnihboiaaPxx7
import Derived.Test.YtopbajcnihboiaaPxx8
namespace Go.Proofs.Ytopbajcnihboiaa.Px
open Go.RowKit Go.Proofs.YtopbajcnihboiaaW.PrintWords Go.Proofs.YtopbajcnihboiaaW.PrintLast Go.Proofs.YtopbajcnihboiaaW.PrintMore
set_option linter.unusedVariables false
set_option linter.unusedSimpArgs false
theorem C_ar {w : World} {B t : Nat} (xs : List Int) (h : w.heap[B]? = some (.cells (ar xs) t (0, 0))) (hl : xs.length ≤ 9223372036854775807) : Kd.C (Kd.int .i64) w (some ⟨B, 0, none⟩) xs.length xs :=
  ⟨rfl, hl, fun _ => ⟨_, rfl, fun j p hj => ⟨[.int .i64 p], rfl, rfl, fun i u hu => by
    match i, hu with
    | 0, hu =>
      obtain rfl := Option.some.inj hu
      have e : ((⟨B, 0, none⟩ : Addr).add (j * (Kd.int .i64).sz + 0)) = ⟨B, j, none⟩ := (congrArg _ (show j * (Kd.int .i64).sz + 0 = j from by show j * 1 + 0 = j; omega)).trans (add_plain _ _)
      rw [e, blk_cell h]
      obtain ⟨h1, h2⟩ := List.getElem?_eq_some_iff.1 hj
      rw [ar_get xs j h1, ← h2]
      simp [rd, h1]
    | i + 1, hu => simp at hu⟩⟩⟩
def observatorylaw13_head.f : Option Bool := some true
set_option maxRecDepth 100000 in
set_option maxHeartbeats 4000000 in
theorem observatorylaw13_head.calls (r : Bool) (w : World) (h : observatorylaw13_head.f = some r) :
    Calls Try.prog 8 #[] w fun e w' => e = .returned (.bool r) ∧ Below w.heap.size w w' := by
  obtain rfl := Option.some.inj h
  clear h
  have hu22 := Try.underlying22
  have F1 := Aside0.mk (show mount_Reach.f 6 0 = some ([(-32), 0, 32], 0) from by kernel_rfl)
  have F2 := Aside0.mk (show mount_Reach.f 6 16 = some ([(-48), (-16), 16, 48], 0) from by kernel_rfl)
  have F3 := Aside0.mk (show mount_Move.f 0 31 = some ((-1), 1, 0) from by kernel_rfl)
  have F4 := Aside0.mk (show mount_Move.f 0 16 = some ((-16), 16, 0) from by kernel_rfl)
  have F5 := Aside0.mk (show mount_Move.f 48 17 = some (17, 31, 0) from by kernel_rfl)
  have F6 := Aside0.mk (show mount_Plan.f 0 [16, 17] = some ([(-16), (-15)], 17, 0) from by kernel_rfl)
  have F7 := Aside0.mk (show mount_Plan.f 0 [16, 15, 20] = some ([(-16), (-17), (-12)], 22, 0) from by kernel_rfl)
  have F8 := Aside0.mk (show observatoryref13_Ints.f 9 [(-32), 0, 32] [(-32), 0, 32] = some true from by kernel_rfl)
  have F9 := Aside0.mk (show observatoryref13_Ints.f 9 [(-48), (-16), 16, 48] [(-48), (-16), 16, 48] = some true from by kernel_rfl)
  have F10 := Aside0.mk (show observatoryref13_Ints.f 9 [(-16), (-15)] [(-16), (-15)] = some true from by kernel_rfl)
  have F11 := Aside0.mk (show observatoryref13_Ints.f 9 [(-16), (-17), (-12)] [(-16), (-17), (-12)] = some true from by kernel_rfl)
  go_enter Try.func8, Try.ntmps8
  go_wp2_with fail
  refine (mount_Reach.calls 6 0 [(-32), 0, 32] 0 _ F1.out).mono ?_
  rintro e w1 ⟨v1, rfl, hR1, hb1⟩
  obtain ⟨A1, c1, rfl⟩ := Kd.R_slice hR1
  have HC1 := Aside0.mk (Kd.R_reads' hR1).2.2
  have HL1 := Aside0.mk (Kd.R_reads' hR1).2.1
  clear hR1
  go_wp2_with fail
  refine (mount_Reach.calls 6 16 [(-48), (-16), 16, 48] 0 _ F2.out).mono ?_
  rintro e w2 ⟨v2, rfl, hR2, hb2⟩
  obtain ⟨A2, c2, rfl⟩ := Kd.R_slice hR2
  have HC2 := Aside0.mk (Kd.R_reads' hR2).2.2
  have HL2 := Aside0.mk (Kd.R_reads' hR2).2.1
  clear hR2
  go_wp2_with fail
  refine (mount_Move.calls 0 31 (-1) 1 0 _ F3.out).mono ?_
  rintro e w3 ⟨rfl, hb3⟩
  go_wp2_with fail
  refine (mount_Move.calls 0 16 (-16) 16 0 _ F4.out).mono ?_
  rintro e w4 ⟨rfl, hb4⟩
  go_wp2_with fail
  refine (mount_Move.calls 48 17 17 31 0 _ F5.out).mono ?_
  rintro e w5 ⟨rfl, hb5⟩
  go_wp2_with fail
  refine (mount_Plan.calls 0 _ _ [16, 17] [(-16), (-15)] 17 0 _ (C_ar [16, 17] (blk_new _ _) (by decide)) (Nat.le_refl _) F6.out).mono ?_
  rintro e w6 ⟨v6, rfl, hR6, hb6⟩
  obtain ⟨A6, c6, rfl⟩ := Kd.R_slice hR6
  have HC6 := Aside0.mk (Kd.R_reads' hR6).2.2
  have HL6 := Aside0.mk (Kd.R_reads' hR6).2.1
  clear hR6
  go_wp2_with fail
  refine (mount_Plan.calls 0 _ _ [16, 15, 20] [(-16), (-17), (-12)] 22 0 _ (C_ar [16, 15, 20] (blk_new _ _) (by decide)) (Nat.le_refl _) F7.out).mono ?_
  rintro e w7 ⟨v7, rfl, hR7, hb7⟩
  obtain ⟨A7, c7, rfl⟩ := Kd.R_slice hR7
  have HC7 := Aside0.mk (Kd.R_reads' hR7).2.2
  have HL7 := Aside0.mk (Kd.R_reads' hR7).2.1
  clear hR7
  go_wp2_with fail
  refine (observatoryref13_Ints.calls 9 _ _ [(-32), 0, 32] _ _ [(-32), 0, 32] true _ (Kd.C_below HC1.out (by repeat (with_reducible first | exact Below.refl _ _ | (refine below_set ?_ (by first | omega | exact Nat.le_refl _)) | apply below_alloc | apply pw_below_drewN | apply below_drew1 | refine below_step ?_ hb7 | refine below_step ?_ hb6 | refine below_step ?_ hb5 | refine below_step ?_ hb4 | refine below_step ?_ hb3 | refine below_step ?_ hb2))) HL1.out (C_ar [(-32), 0, 32] (blk_new _ _) (by decide)) (Nat.le_refl _) F8.out).mono ?_
  rintro e w8 ⟨rfl, hd8⟩
  have hb8 := hd8.below
  clear hd8
  go_wp2_with fail
  refine (observatoryref13_Ints.calls 9 _ _ [(-48), (-16), 16, 48] _ _ [(-48), (-16), 16, 48] true _ (Kd.C_below HC2.out (by repeat (with_reducible first | exact Below.refl _ _ | (refine below_set ?_ (by first | omega | exact Nat.le_refl _)) | apply below_alloc | apply pw_below_drewN | apply below_drew1 | refine below_step ?_ hb8 | refine below_step ?_ hb7 | refine below_step ?_ hb6 | refine below_step ?_ hb5 | refine below_step ?_ hb4 | refine below_step ?_ hb3))) HL2.out (C_ar [(-48), (-16), 16, 48] (blk_new _ _) (by decide)) (Nat.le_refl _) F9.out).mono ?_
  rintro e w9 ⟨rfl, hd9⟩
  have hb9 := hd9.below
  clear hd9
  go_wp2_with fail
  refine (observatoryref13_Ints.calls 9 _ _ [(-16), (-15)] _ _ [(-16), (-15)] true _ (Kd.C_below HC6.out (by repeat (with_reducible first | exact Below.refl _ _ | (refine below_set ?_ (by first | omega | exact Nat.le_refl _)) | apply below_alloc | apply pw_below_drewN | apply below_drew1 | refine below_step ?_ hb9 | refine below_step ?_ hb8 | refine below_step ?_ hb7))) HL6.out (C_ar [(-16), (-15)] (blk_new _ _) (by decide)) (Nat.le_refl _) F10.out).mono ?_
  rintro e w10 ⟨rfl, hd10⟩
  have hb10 := hd10.below
  clear hd10
  go_wp2_with fail
  refine (observatoryref13_Ints.calls 9 _ _ [(-16), (-17), (-12)] _ _ [(-16), (-17), (-12)] true _ (Kd.C_below HC7.out (by repeat (with_reducible first | exact Below.refl _ _ | (refine below_set ?_ (by first | omega | exact Nat.le_refl _)) | apply below_alloc | apply pw_below_drewN | apply below_drew1 | refine below_step ?_ hb10 | refine below_step ?_ hb9 | refine below_step ?_ hb8))) HL7.out (C_ar [(-16), (-17), (-12)] (blk_new _ _) (by decide)) (Nat.le_refl _) F11.out).mono ?_
  rintro e w11 ⟨rfl, hd11⟩
  have hb11 := hd11.below
  clear hd11
  go_wp2
  go_ret
  exact ⟨rfl, by repeat (with_reducible first | exact Below.refl _ _ | (refine below_set ?_ (by first | omega | exact Nat.le_refl _)) | apply below_alloc | apply pw_below_drewN | apply below_drew1 | refine below_step ?_ hb11 | refine below_step ?_ hb10 | refine below_step ?_ hb9 | refine below_step ?_ hb8 | refine below_step ?_ hb7 | refine below_step ?_ hb6 | refine below_step ?_ hb5 | refine below_step ?_ hb4 | refine below_step ?_ hb3 | refine below_step ?_ hb2 | refine below_step ?_ hb1)⟩
end Go.Proofs.Ytopbajcnihboiaa.Px
