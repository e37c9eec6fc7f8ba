/- The laws' head, the chapter's examples: in the form of the contracts, walked by hand. -/
import Derived.Test.YtmndechaeaidcaaExtH
import Derived.Test.YtmndechaeaidcaaPxx9
namespace Go.Proofs.Ytmndechaeaidcaa.Px
open Go.RowKit Go.Proofs.YtmndechaeaidcaaW.PrintWords Go.Proofs.YtmndechaeaidcaaW.PrintLast Go.Proofs.YtmndechaeaidcaaW.PrintMore
attribute [local go_sem] max2_int min2_int max_two min_two max_three min_three max_four min_four World.size_setCell
set_option linter.unusedVariables false
set_option linter.unusedSimpArgs false

theorem C_row37 {w : World} {B t : Nat} {cs : Array Value} (xs : List S37) (h : w.heap[B]? = some (.cells cs t (0, 0))) (hc : ∀ (j : Nat) (p : S37), xs[j]? = some p → cs[j * 2]? = some (Value.int .i64 p.f0) ∧ cs[j * 2 + 1]? = some (Value.int .i64 p.f1)) (hl : xs.length ≤ 9223372036854775807) : Kd.C k37 w (some ⟨B, 0, none⟩) xs.length xs :=
  ⟨rfl, hl, fun _ => ⟨_, rfl, fun j p hj => ⟨[.int .i64 p.f0, .int .i64 p.f1], rfl, k37_mk _ p, fun i u hu => by
    have hs : k37.sz = 2 := rfl
    match i, hu with
    | 0, hu =>
      obtain rfl := Option.some.inj hu
      rw [add_plain, blk_cell h, hs]
      exact (hc j p hj).1
    | 1, hu =>
      obtain rfl := Option.some.inj hu
      rw [add_plain, blk_cell h, hs]
      exact (hc j p hj).2
    | i + 2, hu => simp at hu⟩⟩⟩
theorem C_litb {w : World} {B t : Nat} {cs : Array Value} (xs : List Bool) (h : w.heap[B]? = some (.cells cs t (0, 0))) (hc : ∀ (j : Nat) (p : Bool), xs[j]? = some p → cs[j]? = some (Value.bool p)) (hl : xs.length ≤ 9223372036854775807) : Kd.C Kd.bool w (some ⟨B, 0, none⟩) xs.length xs :=
  ⟨rfl, hl, fun _ => ⟨_, rfl, fun j p hj => ⟨[.bool p], rfl, rfl, fun i u hu => by
    match i, hu with
    | 0, hu =>
      obtain rfl := Option.some.inj hu
      have e : ((⟨B, 0, none⟩ : Addr).add (j * Kd.bool.sz + 0)) = ⟨B, j, none⟩ := (congrArg _ (show j * Kd.bool.sz + 0 = j from by show j * 1 + 0 = j; omega)).trans (add_plain _ _)
      rw [e, blk_cell h]
      exact hc j p hj
    | i + 1, hu => simp at hu⟩⟩⟩
theorem lit5 : ∀ (j : Nat) (p : S37), ([⟨0, 3⟩, ⟨4, 2⟩, ⟨5, 1⟩, ⟨10, 3⟩, ⟨12, 1⟩] : List S37)[j]? = some p → (#[.int .i64 0, .int .i64 3, .int .i64 4, .int .i64 2, .int .i64 5, .int .i64 1, .int .i64 10, .int .i64 3, .int .i64 12, .int .i64 1] : Array Value)[j * 2]? = some (Value.int .i64 p.f0) ∧ (#[.int .i64 0, .int .i64 3, .int .i64 4, .int .i64 2, .int .i64 5, .int .i64 1, .int .i64 10, .int .i64 3, .int .i64 12, .int .i64 1] : Array Value)[j * 2 + 1]? = some (Value.int .i64 p.f1)
  | 0, _, h => by cases h; exact ⟨rfl, rfl⟩
  | 1, _, h => by cases h; exact ⟨rfl, rfl⟩
  | 2, _, h => by cases h; exact ⟨rfl, rfl⟩
  | 3, _, h => by cases h; exact ⟨rfl, rfl⟩
  | 4, _, h => by cases h; exact ⟨rfl, rfl⟩
  | _ + 5, _, h => by simp at h
theorem lit2 : ∀ (j : Nat) (p : S37), ([⟨0, 3⟩, ⟨4, 2⟩] : List S37)[j]? = some p → (#[.int .i64 0, .int .i64 3, .int .i64 4, .int .i64 2, .int .i64 5, .int .i64 1, .int .i64 10, .int .i64 3, .int .i64 12, .int .i64 1] : Array Value)[j * 2]? = some (Value.int .i64 p.f0) ∧ (#[.int .i64 0, .int .i64 3, .int .i64 4, .int .i64 2, .int .i64 5, .int .i64 1, .int .i64 10, .int .i64 3, .int .i64 12, .int .i64 1] : Array Value)[j * 2 + 1]? = some (Value.int .i64 p.f1)
  | 0, _, h => by cases h; exact ⟨rfl, rfl⟩
  | 1, _, h => by cases h; exact ⟨rfl, rfl⟩
  | _ + 2, _, h => by simp at h
theorem litb : ∀ (j : Nat) (p : Bool), [true, true, false, true, false][j]? = some p → #[Value.bool true, Value.bool true, Value.bool false, Value.bool true, Value.bool false][j]? = some (Value.bool p)
  | 0, _, h => by cases h; rfl
  | 1, _, h => by cases h; rfl
  | 2, _, h => by cases h; rfl
  | 3, _, h => by cases h; rfl
  | 4, _, h => by cases h; rfl
  | _ + 5, _, h => by simp at h
def observatorylaw40_head.f (k : Nat) : Option Bool := some true
theorem observatorylaw40_head.mono : ∀ k, LeO (observatorylaw40_head.f k) (observatorylaw40_head.f (k + 1)) := fun _ => LeO.refl _
set_option maxHeartbeats 4000000 in
theorem observatorylaw40_head.calls (k : Nat) (r : Bool) (w : World) (h : observatorylaw40_head.f k = some r) :
    Calls Try.prog 9 #[] w fun e w' => e = .returned (.bool r) ∧ Below w.heap.size w w' := by
  obtain rfl := Option.some.inj h
  clear h
  have hu37 := Try.underlying37
  have hu22 := Try.underlying22
  have F1 := Aside0.mk (show preempt_Run.f 0 10 5 [⟨0, 3⟩, ⟨4, 2⟩, ⟨5, 1⟩, ⟨10, 3⟩, ⟨12, 1⟩] = some ([true, true, false, true, false], 0) from by kernel_rfl)
  have F2 := Aside0.mk (show preempt_Worst.f 0 [⟨0, 3⟩, ⟨4, 2⟩, ⟨5, 1⟩, ⟨10, 3⟩, ⟨12, 1⟩] 10 = some (7, 0) from by kernel_rfl)
  have F3 := Aside0.mk (show preempt_Allow.f 0 [⟨0, 3⟩, ⟨4, 2⟩] 10 5 3 0 = some 13 from by kernel_rfl)
  have F4 := Aside0.mk (show preempt_Allow.f 0 [⟨0, 3⟩, ⟨4, 2⟩] 10 5 5 1 = some 23 from by kernel_rfl)
  have F5 := Aside0.mk (show observatoryref40_Bools.f 20 [true, true, false, true, false] [true, true, false, true, false] = some true from by kernel_rfl)
  have F6 := Aside0.mk (show preempt_Allow.f 0 [⟨0, 3⟩, ⟨4, 2⟩] 10 5 10 3 = some 0 from by kernel_rfl)
  have K0 := Aside0.mk (blk_new w (.cells #[.int .i64 0, .int .i64 3, .int .i64 4, .int .i64 2, .int .i64 5, .int .i64 1, .int .i64 10, .int .i64 3, .int .i64 12, .int .i64 1] 37))
  go_enter Try.func9, Try.ntmps9
  go_wp2_with fail
  refine (preempt_Run.calls 0 10 5 _ _ [⟨0, 3⟩, ⟨4, 2⟩, ⟨5, 1⟩, ⟨10, 3⟩, ⟨12, 1⟩] _ _ _ (C_row37 _ K0.out lit5 (by decide)) (Nat.le_refl _) F1.out).mono ?_
  rintro e w1 ⟨v0, rfl, hR, hb1⟩
  obtain ⟨A1, c1, rfl⟩ := Kd.R_slice hR
  obtain ⟨_, hc1_, hC1_⟩ := Kd.R_reads' hR
  have HC1 := Aside0.mk hC1_
  have HL1 := Aside0.mk hc1_
  have K1 := Aside0.mk ((hb1.block w.heap.size (by simp)).trans K0.out)
  have z1 : w.heap.size < w1.heap.size := blk_lt K1.out
  clear hR hc1_ hC1_ K0
  go_wp2_with fail
  refine (preempt_Worst.calls 0 _ _ [⟨0, 3⟩, ⟨4, 2⟩, ⟨5, 1⟩, ⟨10, 3⟩, ⟨12, 1⟩] 10 _ _ _ (C_row37 _ K1.out lit5 (by decide)) (Nat.le_refl _) F2.out).mono ?_
  rintro e w2 ⟨rfl, hb2⟩
  have K2 := Aside0.mk ((hb2.block w.heap.size z1).trans K1.out)
  have z2 : w.heap.size < w2.heap.size := blk_lt K2.out
  go_wp2_with fail
  refine (preempt_Allow.calls 0 _ _ [⟨0, 3⟩, ⟨4, 2⟩] 10 5 3 0 _ _ (C_row37 _ K2.out lit2 (by decide)) (by decide) F3.out).mono ?_
  rintro e w3 ⟨rfl, hb3⟩
  have K3 := Aside0.mk ((hb3.block w.heap.size z2).trans K2.out)
  have z3 : w.heap.size < w3.heap.size := blk_lt K3.out
  go_wp2_with fail
  refine (preempt_Allow.calls 0 _ _ [⟨0, 3⟩, ⟨4, 2⟩] 10 5 5 1 _ _ (C_row37 _ K3.out lit2 (by decide)) (by decide) F4.out).mono ?_
  rintro e w4 ⟨rfl, hb4⟩
  have K4 := Aside0.mk ((hb4.block w.heap.size z3).trans K3.out)
  have z4 : w.heap.size < w4.heap.size := blk_lt K4.out
  go_wp2_with fail
  refine (observatoryref40_Bools.calls 20 _ _ [true, true, false, true, false] _ _ [true, true, false, true, false] true _ (Kd.C_below HC1.out (by repeat (with_reducible first | exact Below.refl _ _ | (refine below_set ?_ (by first | omega | exact Nat.le_refl _)) | apply below_alloc | apply pw_below_drewN | apply below_drew1 | refine below_step ?_ hb4 | refine below_step ?_ hb3 | refine below_step ?_ hb2))) HL1.out (C_litb _ (blk_new _ _) litb (by decide)) (Nat.le_refl _) F5.out).mono ?_
  rintro e w5 ⟨rfl, hd5⟩
  have hb5 := hd5.below
  have K5 := Aside0.mk ((hb5.block w.heap.size (by simp; omega)).trans (blk_alloc K4.out _))
  have z5 : w.heap.size < w5.heap.size := blk_lt K5.out
  clear hd5
  go_wp2_with fail
  refine (preempt_Allow.calls 0 _ _ [⟨0, 3⟩, ⟨4, 2⟩] 10 5 10 3 _ _ (C_row37 _ K5.out lit2 (by decide)) (by decide) F6.out).mono ?_
  rintro e w6 ⟨rfl, hb6⟩
  go_wp2
  go_ret
  exact ⟨rfl, by repeat (with_reducible first | exact Below.refl _ _ | (refine below_set ?_ (by first | omega | exact Nat.le_refl _)) | apply below_alloc | apply pw_below_drewN | apply below_drew1 | refine below_step ?_ hb6 | refine below_step ?_ hb5 | refine below_step ?_ hb4 | refine below_step ?_ hb3 | refine below_step ?_ hb2 | refine below_step ?_ hb1)⟩
end Go.Proofs.Ytmndechaeaidcaa.Px
