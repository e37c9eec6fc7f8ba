/- The laws' head, the chapter's examples: in the form of the contracts, walked by hand. -/
import Derived.Test.YtefaemikfihdeaaPxx1
import Derived.Test.YtefaemikfihdeaaPxx2
import Derived.Test.YtefaemikfihdeaaPxx8
import Derived.Test.YtefaemikfihdeaaPxx11
import Derived.Test.YtefaemikfihdeaaPxx12
namespace Go.Proofs.Ytefaemikfihdeaa.Px
open Go.RowKit Go.Proofs.YtefaemikfihdeaaW.PrintWords Go.Proofs.YtefaemikfihdeaaW.PrintLast Go.Proofs.YtefaemikfihdeaaW.PrintMore
attribute [local go_sem] max2_int min2_int max_two min_two max_three min_three max_four min_four World.size_setCell
attribute [local go_sem high] eqA30 eqA41
set_option linter.unusedVariables false
set_option linter.unusedSimpArgs false

theorem C_lit {w : World} {B t : Nat} {cs : Array Value} (xs : List Int) (h : w.heap[B]? = some (.cells cs t (0, 0))) (hc : ∀ (j : Nat) (p : Int), xs[j]? = some p → cs[j]? = some (Value.int .i64 p)) (hl : xs.length ≤ 9223372036854775807) : Kd.C (Kd.int .i64) w (some ⟨B, 0, none⟩) xs.length xs :=
  ⟨rfl, hl, fun _ => ⟨_, rfl, fun j p hj => ⟨[.int .i64 p], rfl, rfl, fun i u hu => by
    match i, hu with
    | 0, hu =>
      obtain rfl := Option.some.inj hu
      have e : ((⟨B, 0, none⟩ : Addr).add (j * (Kd.int .i64).sz + 0)) = ⟨B, j, none⟩ := (congrArg _ (show j * (Kd.int .i64).sz + 0 = j from by show j * 1 + 0 = j; omega)).trans (add_plain _ _)
      rw [e, blk_cell h]
      exact hc j p hj
    | i + 1, hu => simp at hu⟩⟩⟩
theorem blk_new2 (w : World) (x y : Obj) : ((w.alloc x).alloc y).heap[w.heap.size + 1]? = some y := by
  have h := blk_new (w.alloc x) y
  rwa [show (w.alloc x).heap.size = w.heap.size + 1 from by simp] at h
theorem lit_F4 : ∀ (j : Nat) (p : Int), [100, 104, 114, 120][j]? = some p → #[Value.int .i64 100, Value.int .i64 104, Value.int .i64 114, Value.int .i64 120][j]? = some (Value.int .i64 p)
  | 0, _, h => by cases h; rfl
  | 1, _, h => by cases h; rfl
  | 2, _, h => by cases h; rfl
  | 3, _, h => by cases h; rfl
  | _ + 4, _, h => by simp at h
theorem lit_F5 : ∀ (j : Nat) (p : Int), [100, 104, 113][j]? = some p → #[Value.int .i64 100, Value.int .i64 104, Value.int .i64 113][j]? = some (Value.int .i64 p)
  | 0, _, h => by cases h; rfl
  | 1, _, h => by cases h; rfl
  | 2, _, h => by cases h; rfl
  | _ + 3, _, h => by simp at h
theorem lit_F6 : ∀ (j : Nat) (p : Int), [100, 104, 114, 120, 130][j]? = some p → #[Value.int .i64 100, Value.int .i64 104, Value.int .i64 114, Value.int .i64 120, Value.int .i64 130][j]? = some (Value.int .i64 p)
  | 0, _, h => by cases h; rfl
  | 1, _, h => by cases h; rfl
  | 2, _, h => by cases h; rfl
  | 3, _, h => by cases h; rfl
  | 4, _, h => by cases h; rfl
  | _ + 5, _, h => by simp at h
def observatorylaw24_head.f (k : Nat) : Option Bool := some true
theorem observatorylaw24_head.mono : ∀ k, LeO (observatorylaw24_head.f k) (observatorylaw24_head.f (k + 1)) := fun _ => LeO.refl _
set_option maxHeartbeats 4000000 in
theorem observatorylaw24_head.calls (k : Nat) (r : Bool) (w : World) (h : observatorylaw24_head.f k = some r) :
    Calls Try.prog 9 #[] w fun e w' => e = .returned (.bool r) ∧ Below w.heap.size w w' := by
  obtain rfl := Option.some.inj h
  clear h
  have hu24 := Try.underlying24
  have hu30 := Try.underlying30
  have hu41 := Try.underlying41
  obtain ⟨L, hL_⟩ : ∃ L : List S35, L = [⟨2, 10, 10⟩, ⟨5, 3, 6⟩] := ⟨_, rfl⟩
  have hL := Aside0.mk hL_
  clear hL_
  have F0 := Aside0.mk (show observatorylaw24_example.f = some (L, 2) from by rw [hL.out]; rfl)
  have F1 := Aside0.mk (show cadence_Window.f 60 L 2 0 0 0 false = some (0, 38399, 0) from by rw [hL.out]; kernel_rfl)
  have F2 := Aside0.mk (show cadence_Advance.f 60 L 2 0 0 0 false 100 = some (1, 0, 100, false, 0) from by rw [hL.out]; kernel_rfl)
  have F3 := Aside0.mk (show cadence_Window.f 60 L 2 1 0 100 false = some (103, 106, 0) from by rw [hL.out]; kernel_rfl)
  have F4 := Aside0.mk (show cadence_Replay.f 60 L 2 [100, 104, 114, 120] = some (0, 2, 120, true, 4, 0) from by rw [hL.out]; kernel_rfl)
  have F5 := Aside0.mk (show cadence_Replay.f 60 L 2 [100, 104, 113] = some (0, 0, 0, false, 2, 16) from by rw [hL.out]; kernel_rfl)
  have F6 := Aside0.mk (show cadence_Replay.f 60 L 2 [100, 104, 114, 120, 130] = some (0, 0, 0, false, 4, 11) from by rw [hL.out]; kernel_rfl)
  have F7 := Aside0.mk (show cadence_Ready.f 60 L 2 1 0 100 false 102 = some 16 from by rw [hL.out]; kernel_rfl)
  have F8 := Aside0.mk (show cadence_Ready.f 60 L 2 1 0 100 false 107 = some 17 from by rw [hL.out]; kernel_rfl)
  have F9 := Aside0.mk (show cadence_Valid.f 60 [] 0 = some false from by kernel_rfl)
  go_enter Try.func9, Try.ntmps9
  go_wp2_with fail
  refine (observatorylaw24_example.calls L 2 _ F0.out).mono ?_
  rintro e w0 ⟨v0, rfl, hR, hb0⟩
  obtain ⟨g, cap, rfl, hg1_, hg2, _⟩ := Kd.R_form hR (by rw [hL.out]; decide)
  have hg1 := Aside0.mk hg1_
  clear hg1_
  have HR := Aside0.mk (Kd.R_reads' hR).2.2
  have HC := Aside0.mk (Kd.R_reads' hR).2.1
  clear hR
  obtain ⟨hc0, hf0⟩ := bcell hb0
  go_wp2_with fail
  refine (cadence_Window.calls 60 _ _ L 2 0 0 0 false 0 38399 0 _ (Kd.C_below HR.out (by repeat (with_reducible first | exact Below.refl _ _ | (refine below_set ?_ (by first | omega | exact Nat.le_refl _)) | apply below_alloc | apply pw_below_drewN | apply below_drew1))) HC.out F1.out).mono ?_
  rintro e w1 ⟨rfl, hb1⟩
  obtain ⟨hc1, hf1⟩ := bcell hb1
  have z1_0 : w0.heap.size < w1.heap.size := by have := hb1.size; (try simp at this); omega
  have y1_0 : w0.heap.size < w1.heap.size + 1 + 1 := by omega
  have yy1 : w1.heap.size < w1.heap.size + 1 + 1 := by omega
  go_wp2_with fail
  refine (cadence_Advance.calls 60 _ _ L 2 0 0 0 false 100 1 0 100 false 0 _ (Kd.C_below HR.out (by repeat (with_reducible first | exact Below.refl _ _ | (refine below_set ?_ (by first | omega | exact Nat.le_refl _)) | apply below_alloc | apply pw_below_drewN | apply below_drew1 | refine below_step ?_ hb1))) HC.out F2.out).mono ?_
  rintro e w2 ⟨rfl, hb2⟩
  obtain ⟨hc2, hf2⟩ := bcell hb2
  have z2_0 : w0.heap.size < w2.heap.size := by have := hb2.size; (try simp at this); omega
  have z2_1 : w1.heap.size < w2.heap.size := by have := hb2.size; (try simp at this); omega
  have y2_0 : w0.heap.size < w2.heap.size + 1 + 1 := by omega
  have y2_1 : w1.heap.size < w2.heap.size + 1 + 1 := by omega
  have yy2 : w2.heap.size < w2.heap.size + 1 + 1 := by omega
  go_wp2_with fail
  refine (cadence_Window.calls 60 _ _ L 2 1 0 100 false 103 106 0 _ (Kd.C_below HR.out (by repeat (with_reducible first | exact Below.refl _ _ | (refine below_set ?_ (by first | omega | exact Nat.le_refl _)) | apply below_alloc | apply pw_below_drewN | apply below_drew1 | refine below_step ?_ hb2 | refine below_step ?_ hb1))) HC.out F3.out).mono ?_
  rintro e w3 ⟨rfl, hb3⟩
  obtain ⟨hc3, hf3⟩ := bcell hb3
  have z3_0 : w0.heap.size < w3.heap.size := by have := hb3.size; (try simp at this); omega
  have z3_1 : w1.heap.size < w3.heap.size := by have := hb3.size; (try simp at this); omega
  have z3_2 : w2.heap.size < w3.heap.size := by have := hb3.size; (try simp at this); omega
  have y3_0 : w0.heap.size < w3.heap.size + 1 + 1 := by omega
  have y3_1 : w1.heap.size < w3.heap.size + 1 + 1 := by omega
  have y3_2 : w2.heap.size < w3.heap.size + 1 + 1 := by omega
  have yy3 : w3.heap.size < w3.heap.size + 1 + 1 := by omega
  go_wp2_with fail
  refine (cadence_Replay.calls 60 _ _ L 2 _ _ [100, 104, 114, 120] 0 2 120 true 4 0 _ (Kd.C_below HR.out (by repeat (with_reducible first | exact Below.refl _ _ | (refine below_set ?_ (by first | omega | exact Nat.le_refl _)) | apply below_alloc | apply pw_below_drewN | apply below_drew1 | refine below_step ?_ hb3 | refine below_step ?_ hb2 | refine below_step ?_ hb1))) HC.out ?clF4 (Nat.le_refl _) F4.out).mono ?_
  case clF4 => exact C_lit [100, 104, 114, 120] (blk_new2 _ _ _) (lit_F4) (by decide)
  rintro e w4 ⟨rfl, hb4⟩
  obtain ⟨hc4, hf4⟩ := bcell hb4
  have z4_0 : w0.heap.size < w4.heap.size := by have := hb4.size; (try simp at this); omega
  have z4_1 : w1.heap.size < w4.heap.size := by have := hb4.size; (try simp at this); omega
  have z4_2 : w2.heap.size < w4.heap.size := by have := hb4.size; (try simp at this); omega
  have z4_3 : w3.heap.size < w4.heap.size := by have := hb4.size; (try simp at this); omega
  have y4_0 : w0.heap.size < w4.heap.size + 1 + 1 := by omega
  have y4_1 : w1.heap.size < w4.heap.size + 1 + 1 := by omega
  have y4_2 : w2.heap.size < w4.heap.size + 1 + 1 := by omega
  have y4_3 : w3.heap.size < w4.heap.size + 1 + 1 := by omega
  have yy4 : w4.heap.size < w4.heap.size + 1 + 1 := by omega
  go_wp2_with fail
  refine (cadence_Replay.calls 60 _ _ L 2 _ _ [100, 104, 113] 0 0 0 false 2 16 _ (Kd.C_below HR.out (by repeat (with_reducible first | exact Below.refl _ _ | (refine below_set ?_ (by first | omega | exact Nat.le_refl _)) | apply below_alloc | apply pw_below_drewN | apply below_drew1 | refine below_step ?_ hb4 | refine below_step ?_ hb3 | refine below_step ?_ hb2 | refine below_step ?_ hb1))) HC.out ?clF5 (Nat.le_refl _) F5.out).mono ?_
  case clF5 => exact C_lit [100, 104, 113] (blk_new2 _ _ _) (lit_F5) (by decide)
  rintro e w5 ⟨rfl, hb5⟩
  obtain ⟨hc5, hf5⟩ := bcell hb5
  have z5_0 : w0.heap.size < w5.heap.size := by have := hb5.size; (try simp at this); omega
  have z5_1 : w1.heap.size < w5.heap.size := by have := hb5.size; (try simp at this); omega
  have z5_2 : w2.heap.size < w5.heap.size := by have := hb5.size; (try simp at this); omega
  have z5_3 : w3.heap.size < w5.heap.size := by have := hb5.size; (try simp at this); omega
  have z5_4 : w4.heap.size < w5.heap.size := by have := hb5.size; (try simp at this); omega
  have y5_0 : w0.heap.size < w5.heap.size + 1 + 1 := by omega
  have y5_1 : w1.heap.size < w5.heap.size + 1 + 1 := by omega
  have y5_2 : w2.heap.size < w5.heap.size + 1 + 1 := by omega
  have y5_3 : w3.heap.size < w5.heap.size + 1 + 1 := by omega
  have y5_4 : w4.heap.size < w5.heap.size + 1 + 1 := by omega
  have yy5 : w5.heap.size < w5.heap.size + 1 + 1 := by omega
  go_wp2_with fail
  refine (cadence_Replay.calls 60 _ _ L 2 _ _ [100, 104, 114, 120, 130] 0 0 0 false 4 11 _ (Kd.C_below HR.out (by repeat (with_reducible first | exact Below.refl _ _ | (refine below_set ?_ (by first | omega | exact Nat.le_refl _)) | apply below_alloc | apply pw_below_drewN | apply below_drew1 | refine below_step ?_ hb5 | refine below_step ?_ hb4 | refine below_step ?_ hb3 | refine below_step ?_ hb2 | refine below_step ?_ hb1))) HC.out ?clF6 (Nat.le_refl _) F6.out).mono ?_
  case clF6 => exact C_lit [100, 104, 114, 120, 130] (blk_new2 _ _ _) (lit_F6) (by decide)
  rintro e w6 ⟨rfl, hb6⟩
  obtain ⟨hc6, hf6⟩ := bcell hb6
  have z6_0 : w0.heap.size < w6.heap.size := by have := hb6.size; (try simp at this); omega
  have z6_1 : w1.heap.size < w6.heap.size := by have := hb6.size; (try simp at this); omega
  have z6_2 : w2.heap.size < w6.heap.size := by have := hb6.size; (try simp at this); omega
  have z6_3 : w3.heap.size < w6.heap.size := by have := hb6.size; (try simp at this); omega
  have z6_4 : w4.heap.size < w6.heap.size := by have := hb6.size; (try simp at this); omega
  have z6_5 : w5.heap.size < w6.heap.size := by have := hb6.size; (try simp at this); omega
  have y6_0 : w0.heap.size < w6.heap.size + 1 + 1 := by omega
  have y6_1 : w1.heap.size < w6.heap.size + 1 + 1 := by omega
  have y6_2 : w2.heap.size < w6.heap.size + 1 + 1 := by omega
  have y6_3 : w3.heap.size < w6.heap.size + 1 + 1 := by omega
  have y6_4 : w4.heap.size < w6.heap.size + 1 + 1 := by omega
  have y6_5 : w5.heap.size < w6.heap.size + 1 + 1 := by omega
  have yy6 : w6.heap.size < w6.heap.size + 1 + 1 := by omega
  go_wp2_with fail
  refine (cadence_Ready.calls 60 _ _ L 2 1 0 100 false 102 16 _ (Kd.C_below HR.out (by repeat (with_reducible first | exact Below.refl _ _ | (refine below_set ?_ (by first | omega | exact Nat.le_refl _)) | apply below_alloc | apply pw_below_drewN | apply below_drew1 | refine below_step ?_ hb6 | refine below_step ?_ hb5 | refine below_step ?_ hb4 | refine below_step ?_ hb3 | refine below_step ?_ hb2 | refine below_step ?_ hb1))) HC.out F7.out).mono ?_
  rintro e w7 ⟨rfl, hb7⟩
  obtain ⟨hc7, hf7⟩ := bcell hb7
  have z7_0 : w0.heap.size < w7.heap.size := by have := hb7.size; (try simp at this); omega
  have z7_1 : w1.heap.size < w7.heap.size := by have := hb7.size; (try simp at this); omega
  have z7_2 : w2.heap.size < w7.heap.size := by have := hb7.size; (try simp at this); omega
  have z7_3 : w3.heap.size < w7.heap.size := by have := hb7.size; (try simp at this); omega
  have z7_4 : w4.heap.size < w7.heap.size := by have := hb7.size; (try simp at this); omega
  have z7_5 : w5.heap.size < w7.heap.size := by have := hb7.size; (try simp at this); omega
  have z7_6 : w6.heap.size < w7.heap.size := by have := hb7.size; (try simp at this); omega
  have y7_0 : w0.heap.size < w7.heap.size + 1 + 1 := by omega
  have y7_1 : w1.heap.size < w7.heap.size + 1 + 1 := by omega
  have y7_2 : w2.heap.size < w7.heap.size + 1 + 1 := by omega
  have y7_3 : w3.heap.size < w7.heap.size + 1 + 1 := by omega
  have y7_4 : w4.heap.size < w7.heap.size + 1 + 1 := by omega
  have y7_5 : w5.heap.size < w7.heap.size + 1 + 1 := by omega
  have y7_6 : w6.heap.size < w7.heap.size + 1 + 1 := by omega
  have yy7 : w7.heap.size < w7.heap.size + 1 + 1 := by omega
  go_wp2_with fail
  refine (cadence_Ready.calls 60 _ _ L 2 1 0 100 false 107 17 _ (Kd.C_below HR.out (by repeat (with_reducible first | exact Below.refl _ _ | (refine below_set ?_ (by first | omega | exact Nat.le_refl _)) | apply below_alloc | apply pw_below_drewN | apply below_drew1 | refine below_step ?_ hb7 | refine below_step ?_ hb6 | refine below_step ?_ hb5 | refine below_step ?_ hb4 | refine below_step ?_ hb3 | refine below_step ?_ hb2 | refine below_step ?_ hb1))) HC.out F8.out).mono ?_
  rintro e w8 ⟨rfl, hb8⟩
  obtain ⟨hc8, hf8⟩ := bcell hb8
  have z8_0 : w0.heap.size < w8.heap.size := by have := hb8.size; (try simp at this); omega
  have z8_1 : w1.heap.size < w8.heap.size := by have := hb8.size; (try simp at this); omega
  have z8_2 : w2.heap.size < w8.heap.size := by have := hb8.size; (try simp at this); omega
  have z8_3 : w3.heap.size < w8.heap.size := by have := hb8.size; (try simp at this); omega
  have z8_4 : w4.heap.size < w8.heap.size := by have := hb8.size; (try simp at this); omega
  have z8_5 : w5.heap.size < w8.heap.size := by have := hb8.size; (try simp at this); omega
  have z8_6 : w6.heap.size < w8.heap.size := by have := hb8.size; (try simp at this); omega
  have y8_0 : w0.heap.size < w8.heap.size + 1 + 1 := by omega
  have y8_1 : w1.heap.size < w8.heap.size + 1 + 1 := by omega
  have y8_2 : w2.heap.size < w8.heap.size + 1 + 1 := by omega
  have y8_3 : w3.heap.size < w8.heap.size + 1 + 1 := by omega
  have y8_4 : w4.heap.size < w8.heap.size + 1 + 1 := by omega
  have y8_5 : w5.heap.size < w8.heap.size + 1 + 1 := by omega
  have y8_6 : w6.heap.size < w8.heap.size + 1 + 1 := by omega
  have yy8 : w8.heap.size < w8.heap.size + 1 + 1 := by omega
  go_wp2_with fail
  refine (cadence_Valid.calls 60 none 0 [] 0 false _ (Kd.C_nil _ _) (by decide) F9.out).mono ?_
  rintro e w9 ⟨rfl, hb9⟩
  obtain ⟨hc9, hf9⟩ := bcell hb9
  have z9_0 : w0.heap.size < w9.heap.size := by have := hb9.size; (try simp at this); omega
  have z9_1 : w1.heap.size < w9.heap.size := by have := hb9.size; (try simp at this); omega
  have z9_2 : w2.heap.size < w9.heap.size := by have := hb9.size; (try simp at this); omega
  have z9_3 : w3.heap.size < w9.heap.size := by have := hb9.size; (try simp at this); omega
  have z9_4 : w4.heap.size < w9.heap.size := by have := hb9.size; (try simp at this); omega
  have z9_5 : w5.heap.size < w9.heap.size := by have := hb9.size; (try simp at this); omega
  have z9_6 : w6.heap.size < w9.heap.size := by have := hb9.size; (try simp at this); omega
  have y9_0 : w0.heap.size < w9.heap.size + 1 + 1 := by omega
  have y9_1 : w1.heap.size < w9.heap.size + 1 + 1 := by omega
  have y9_2 : w2.heap.size < w9.heap.size + 1 + 1 := by omega
  have y9_3 : w3.heap.size < w9.heap.size + 1 + 1 := by omega
  have y9_4 : w4.heap.size < w9.heap.size + 1 + 1 := by omega
  have y9_5 : w5.heap.size < w9.heap.size + 1 + 1 := by omega
  have y9_6 : w6.heap.size < w9.heap.size + 1 + 1 := by omega
  have yy9 : w9.heap.size < w9.heap.size + 1 + 1 := by omega
  go_wp2
  go_ret
  exact ⟨rfl, by repeat (with_reducible first | exact Below.refl _ _ | (refine below_set ?_ (by first | omega | exact Nat.le_refl _)) | apply below_alloc | apply pw_below_drewN | apply below_drew1 | refine below_step ?_ hb9 | refine below_step ?_ hb8 | refine below_step ?_ hb7 | refine below_step ?_ hb6 | refine below_step ?_ hb5 | refine below_step ?_ hb4 | refine below_step ?_ hb3 | refine below_step ?_ hb2 | refine below_step ?_ hb1 | refine below_step ?_ hb0)⟩
end Go.Proofs.Ytefaemikfihdeaa.Px
