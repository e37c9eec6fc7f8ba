/- What 'Ready' hands back, in the form of the print's contracts: its four checks are functions made on the spot, asked one after the other. -/
import Derived.Test.YtefaemikfihdeaaPxx0
import Derived.Test.YtefaemikfihdeaaPxx6
import Derived.Test.YtefaemikfihdeaaPxx9
import Derived.Test.YtefaemikfihdeaaPxx10
namespace Go.Proofs.Ytefaemikfihdeaa.Px
open Go.RowKit Go.Proofs.YtefaemikfihdeaaW.PrintWords Go.Proofs.YtefaemikfihdeaaW.PrintLast Go.Proofs.YtefaemikfihdeaaW.PrintMore
attribute [local go_sem] max2_int min2_int max_two min_two max_three min_three max_four min_four World.size_setCell
set_option linter.unusedVariables false
set_option linter.unusedSimpArgs false

theorem bcell {W w1 : World} (hb : Below W.heap.size W w1) : (∀ b o, b < W.heap.size → w1.cell? ⟨b, o, none⟩ = W.cell? ⟨b, o, none⟩) ∧ (∀ b o, b < W.heap.size → w1.frozen? ⟨b, o, none⟩ = W.frozen? ⟨b, o, none⟩) :=
  ⟨fun b o h => hb.cell (p := ⟨b, o, none⟩) h, fun b o h => hb.frozen (p := ⟨b, o, none⟩) h⟩
def cadence_Ready.f (k : Nat) (l0_0 : List (S35)) (a0_1 : Int) (a1_0 : Int) (a1_1 : Int) (a1_2 : Int) (a1_3 : Bool) (a2 : Int) : Option (Int) :=
  (cadence_valid.f k l0_0 a0_1 a1_0 a1_1 a1_2 a1_3).bind fun v => (if v = true then (if 0 ≤ a2 ∧ a2 ≤ 38399 then (if a1_3 = true then (some 11) else ((cadence_window.f l0_0 a0_1 a1_0 a1_1 a1_2 a1_3).bind fun s => (if a2 < s.1 then (some 16) else (if s.2 < a2 then (some 17) else (some 0))))) else (some 1)) else (some 1))
theorem cadence_Ready.mono : ∀ a0 a1 a2 a3 a4 a5 a6 k, LeO (cadence_Ready.f k a0 a1 a2 a3 a4 a5 a6) (cadence_Ready.f (k + 1) a0 a1 a2 a3 a4 a5 a6) := by
  intro a0 a1 a2 a3 a4 a5 a6 k
  unfold cadence_Ready.f
  exact LeO.bind (cadence_valid.mono _ _ _ _ _ _ _) (fun _ => LeO.refl _)

theorem run_store_func {P : Program} {w : World} (a : Addr) (f : Fn) (x c : Array Value) {m : Mode} : (store a (.func f x c) m).run P w = stored P w a (.func f x c) m := run_store P w a _ m rfl
theorem run_field41_0 (w : World) (x y : Int) : (Instr.field 41 (Value.agg #[.int .i64 x, .int .i64 y]) 0).run Try.prog w = .ok (.int .i64 x) w := rfl
theorem run_field41_1 (w : World) (x y : Int) : (Instr.field 41 (Value.agg #[.int .i64 x, .int .i64 y]) 1).run Try.prog w = .ok (.int .i64 y) w := rfl
attribute [local go_sem] run_store_func run_field41_0 run_field41_1
/-- 'first' over four checks. -/
theorem first4 (B : Nat) (c1 c2 c3 c4 : Array Value) (b1 b2 b3 b4 : Bool) (w : World)
    (h0 : w.cell? ⟨B, 0, none⟩ = some (.int .i64 1)) (h1 : w.cell? ⟨B, 1, none⟩ = some (.func (.func 27) #[] c1))
    (h2 : w.cell? ⟨B, 2, none⟩ = some (.int .i64 11)) (h3 : w.cell? ⟨B, 3, none⟩ = some (.func (.func 28) #[] c2))
    (h4 : w.cell? ⟨B, 4, none⟩ = some (.int .i64 16)) (h5 : w.cell? ⟨B, 5, none⟩ = some (.func (.func 29) #[] c3))
    (h6 : w.cell? ⟨B, 6, none⟩ = some (.int .i64 17)) (h7 : w.cell? ⟨B, 7, none⟩ = some (.func (.func 30) #[] c4))
    (H1 : ∀ W, Below w.heap.size w W → Calls Try.prog 27 c1 W fun e w' => e = .returned (.bool b1) ∧ Below W.heap.size W w')
    (H2 : b1 = true → ∀ W, Below w.heap.size w W → Calls Try.prog 28 c2 W fun e w' => e = .returned (.bool b2) ∧ Below W.heap.size W w')
    (H3 : b1 = true → b2 = true → ∀ W, Below w.heap.size w W → Calls Try.prog 29 c3 W fun e w' => e = .returned (.bool b3) ∧ Below W.heap.size W w')
    (H4 : b1 = true → b2 = true → b3 = true → ∀ W, Below w.heap.size w W → Calls Try.prog 30 c4 W fun e w' => e = .returned (.bool b4) ∧ Below W.heap.size W w') :
    Calls Try.prog 31 #[.slice (some ⟨B, 0, none⟩) 4 4] w fun e w' => e = .returned (.int .i64 (if b1 = true then (if b2 = true then (if b3 = true then (if b4 = true then 0 else 17) else 16) else 11) else 1)) ∧ Below w.heap.size w w' := by
  have hu54 := Try.underlying54
  have hu55 := Try.underlying55
  have z0 := World.block_lt_of_cell? w _ h0
  go_enter Try.func31, Try.ntmps31
  go_wp2
  refine wp_loop_rounds 6 ?_
  rw [rounds_succ]
  go_wp2_with fail
  refine (H1 _ (by repeat (with_reducible first | exact Below.refl _ _ | (refine below_set ?_ (by first | omega | exact Nat.le_refl _)) | apply below_alloc | apply pw_below_drewN | apply below_drew1))).mono ?_
  rintro e w1 ⟨rfl, hb1⟩
  obtain ⟨hc1, hf1⟩ := bcell hb1
  have z1 : B < w1.heap.size := by have := hb1.size; (try simp at this); omega
  have y1_1 : w.heap.size < w1.heap.size := by have := hb1.size; (try simp at this); omega
  cases b1
  · go_wp2
    go_ret
    exact ⟨rfl, by repeat (with_reducible first | exact Below.refl _ _ | (refine below_set ?_ (by first | omega | exact Nat.le_refl _)) | apply below_alloc | apply pw_below_drewN | apply below_drew1 | refine below_step ?_ hb1)⟩
  go_wp2_with fail
  rw [rounds_succ]
  go_wp2_with fail
  refine (H2 (by trivial) _ (by repeat (with_reducible first | exact Below.refl _ _ | (refine below_set ?_ (by first | omega | exact Nat.le_refl _)) | apply below_alloc | apply pw_below_drewN | apply below_drew1 | refine below_step ?_ hb1))).mono ?_
  rintro e w2 ⟨rfl, hb2⟩
  obtain ⟨hc2, hf2⟩ := bcell hb2
  have z2 : B < w2.heap.size := by have := hb2.size; (try simp at this); omega
  have y2_1 : w.heap.size < w2.heap.size := by have := hb2.size; (try simp at this); omega
  have y2_2 : w1.heap.size < w2.heap.size := by have := hb2.size; (try simp at this); omega
  cases b2
  · go_wp2
    go_ret
    exact ⟨rfl, by repeat (with_reducible first | exact Below.refl _ _ | (refine below_set ?_ (by first | omega | exact Nat.le_refl _)) | apply below_alloc | apply pw_below_drewN | apply below_drew1 | refine below_step ?_ hb2 | refine below_step ?_ hb1)⟩
  go_wp2_with fail
  rw [rounds_succ]
  go_wp2_with fail
  refine (H3 (by trivial) (by trivial) _ (by repeat (with_reducible first | exact Below.refl _ _ | (refine below_set ?_ (by first | omega | exact Nat.le_refl _)) | apply below_alloc | apply pw_below_drewN | apply below_drew1 | refine below_step ?_ hb2 | refine below_step ?_ hb1))).mono ?_
  rintro e w3 ⟨rfl, hb3⟩
  obtain ⟨hc3, hf3⟩ := bcell hb3
  have z3 : B < w3.heap.size := by have := hb3.size; (try simp at this); omega
  have y3_1 : w.heap.size < w3.heap.size := by have := hb3.size; (try simp at this); omega
  have y3_2 : w1.heap.size < w3.heap.size := by have := hb3.size; (try simp at this); omega
  have y3_3 : w2.heap.size < w3.heap.size := by have := hb3.size; (try simp at this); omega
  cases b3
  · go_wp2
    go_ret
    exact ⟨rfl, by repeat (with_reducible first | exact Below.refl _ _ | (refine below_set ?_ (by first | omega | exact Nat.le_refl _)) | apply below_alloc | apply pw_below_drewN | apply below_drew1 | refine below_step ?_ hb3 | refine below_step ?_ hb2 | refine below_step ?_ hb1)⟩
  go_wp2_with fail
  rw [rounds_succ]
  go_wp2_with fail
  refine (H4 (by trivial) (by trivial) (by trivial) _ (by repeat (with_reducible first | exact Below.refl _ _ | (refine below_set ?_ (by first | omega | exact Nat.le_refl _)) | apply below_alloc | apply pw_below_drewN | apply below_drew1 | refine below_step ?_ hb3 | refine below_step ?_ hb2 | refine below_step ?_ hb1))).mono ?_
  rintro e w4 ⟨rfl, hb4⟩
  obtain ⟨hc4, hf4⟩ := bcell hb4
  have z4 : B < w4.heap.size := by have := hb4.size; (try simp at this); omega
  have y4_1 : w.heap.size < w4.heap.size := by have := hb4.size; (try simp at this); omega
  have y4_2 : w1.heap.size < w4.heap.size := by have := hb4.size; (try simp at this); omega
  have y4_3 : w2.heap.size < w4.heap.size := by have := hb4.size; (try simp at this); omega
  have y4_4 : w3.heap.size < w4.heap.size := by have := hb4.size; (try simp at this); omega
  cases b4
  · go_wp2
    go_ret
    exact ⟨rfl, by repeat (with_reducible first | exact Below.refl _ _ | (refine below_set ?_ (by first | omega | exact Nat.le_refl _)) | apply below_alloc | apply pw_below_drewN | apply below_drew1 | refine below_step ?_ hb4 | refine below_step ?_ hb3 | refine below_step ?_ hb2 | refine below_step ?_ hb1)⟩
  go_wp2_with fail
  rw [rounds_succ]
  go_wp2
  go_ret
  exact ⟨rfl, by repeat (with_reducible first | exact Below.refl _ _ | (refine below_set ?_ (by first | omega | exact Nat.le_refl _)) | apply below_alloc | apply pw_below_drewN | apply below_drew1 | refine below_step ?_ hb4 | refine below_step ?_ hb3 | refine below_step ?_ hb2 | refine below_step ?_ hb1)⟩

theorem ready1 (k : Nat) (s c m : Nat) (v : Bool) (A0_0 : Option Addr) (c0_0 : Nat) (l0_0 : List (S35)) (a0_1 : Int) (a1_0 : Int) (a1_1 : Int) (a1_2 : Int) (a1_3 : Bool) (a2 : Int) (w : World) (hr0_0 : Kd.C k35 w A0_0 l0_0.length l0_0) (hc0_0 : l0_0.length ≤ c0_0) (ks0 : w.cell? ⟨s, 0, none⟩ = some (.slice A0_0 l0_0.length c0_0)) (ks1 : w.cell? ⟨s, 1, none⟩ = some (.int .i64 a0_1)) (kc0 : w.cell? ⟨c, 0, none⟩ = some (.int .i64 a1_0)) (kc1 : w.cell? ⟨c, 1, none⟩ = some (.int .i64 a1_1)) (kc2 : w.cell? ⟨c, 2, none⟩ = some (.int .i64 a1_2)) (kc3 : w.cell? ⟨c, 3, none⟩ = some (.bool a1_3)) (km0 : w.cell? ⟨m, 0, none⟩ = some (.int .i64 a2))
    (hv_ : cadence_valid.f k l0_0 a0_1 a1_0 a1_1 a1_2 a1_3 = some v) :
    Calls Try.prog 27 #[.pointer (some ⟨s, 0, none⟩), .pointer (some ⟨c, 0, none⟩), .pointer (some ⟨m, 0, none⟩)] w fun e w' => e = .returned (.bool (v && (decide (0 ≤ a2) && decide (a2 ≤ 38399)))) ∧ Below w.heap.size w w' := by
  have hu24 := Try.underlying24
  have hu30 := Try.underlying30
  have hu41 := Try.underlying41
  have zm : m < w.heap.size := World.block_lt_of_cell? w _ km0
  have hv := Aside0.mk hv_
  clear hv_
  go_enter Try.func27, Try.ntmps27
  go_wp2_with fail
  refine (cadence_valid.calls k _ _ l0_0 a0_1 a1_0 a1_1 a1_2 a1_3 v _ hr0_0 hc0_0 hv.out).mono ?_
  rintro e w1 ⟨rfl, hb1⟩
  obtain ⟨hc1, hf1⟩ := bcell hb1
  cases v
  · go_wp2
    go_ret
    exact ⟨rfl, by repeat (with_reducible first | exact Below.refl _ _ | (refine below_set ?_ (by first | omega | exact Nat.le_refl _)) | apply below_alloc | apply pw_below_drewN | apply below_drew1 | refine below_step ?_ hb1)⟩
  go_wp2_with fail
  refine (cadence_within.calls a2 0 38399 _ _ (show _ = some (decide (0 ≤ a2) && decide (a2 ≤ 38399)) from by unfold cadence_within.f; by_cases h : 0 ≤ a2 <;> simp [h])).mono ?_
  rintro e w2 ⟨rfl, hd⟩
  have hb2 := hd.below
  go_wp2
  go_ret
  exact ⟨rfl, by repeat (with_reducible first | exact Below.refl _ _ | (refine below_set ?_ (by first | omega | exact Nat.le_refl _)) | apply below_alloc | apply pw_below_drewN | apply below_drew1 | refine below_step ?_ hb2 | refine below_step ?_ hb1)⟩

theorem ready2 (c : Nat) (a1_0 a1_1 a1_2 : Int) (a1_3 : Bool) (w : World) (kc0 : w.cell? ⟨c, 0, none⟩ = some (.int .i64 a1_0)) (kc1 : w.cell? ⟨c, 1, none⟩ = some (.int .i64 a1_1)) (kc2 : w.cell? ⟨c, 2, none⟩ = some (.int .i64 a1_2)) (kc3 : w.cell? ⟨c, 3, none⟩ = some (.bool a1_3)) :
    Calls Try.prog 28 #[.pointer (some ⟨c, 0, none⟩)] w fun e w' => e = .returned (.bool (!a1_3)) ∧ Below w.heap.size w w' := by
  have hu30 := Try.underlying30
  go_enter Try.func28, Try.ntmps28
  go_wp2
  go_ret
  exact ⟨rfl, by repeat (with_reducible first | exact Below.refl _ _ | (refine below_set ?_ (by first | omega | exact Nat.le_refl _)) | apply below_alloc | apply pw_below_drewN | apply below_drew1)⟩

theorem ready3 (s c m : Nat) (s1 s2 : Int) (A0_0 : Option Addr) (c0_0 : Nat) (l0_0 : List (S35)) (a0_1 : Int) (a1_0 : Int) (a1_1 : Int) (a1_2 : Int) (a1_3 : Bool) (a2 : Int) (w : World) (hr0_0 : Kd.C k35 w A0_0 l0_0.length l0_0) (hc0_0 : l0_0.length ≤ c0_0) (ks0 : w.cell? ⟨s, 0, none⟩ = some (.slice A0_0 l0_0.length c0_0)) (ks1 : w.cell? ⟨s, 1, none⟩ = some (.int .i64 a0_1)) (kc0 : w.cell? ⟨c, 0, none⟩ = some (.int .i64 a1_0)) (kc1 : w.cell? ⟨c, 1, none⟩ = some (.int .i64 a1_1)) (kc2 : w.cell? ⟨c, 2, none⟩ = some (.int .i64 a1_2)) (kc3 : w.cell? ⟨c, 3, none⟩ = some (.bool a1_3)) (km0 : w.cell? ⟨m, 0, none⟩ = some (.int .i64 a2))
    (hv_ : cadence_window.f l0_0 a0_1 a1_0 a1_1 a1_2 a1_3 = some (s1, s2)) :
    Calls Try.prog 29 #[.pointer (some ⟨m, 0, none⟩), .pointer (some ⟨s, 0, none⟩), .pointer (some ⟨c, 0, none⟩)] w fun e w' => e = .returned (.bool (decide (s1 ≤ a2))) ∧ Below w.heap.size w w' := by
  have hu24 := Try.underlying24
  have hu30 := Try.underlying30
  have hu41 := Try.underlying41
  have zm : m < w.heap.size := World.block_lt_of_cell? w _ km0
  have zs : s < w.heap.size := World.block_lt_of_cell? w _ ks0
  have zc : c < w.heap.size := World.block_lt_of_cell? w _ kc0
  have hv := Aside0.mk hv_
  clear hv_
  go_enter Try.func29, Try.ntmps29
  go_wp2_with fail
  go_region_held3 (fun w' => w'.cell? ⟨s, 0, none⟩ = some (.slice A0_0 l0_0.length c0_0) ∧ w'.cell? ⟨s, 1, none⟩ = some (.int .i64 a0_1) ∧ w'.cell? ⟨c, 0, none⟩ = some (.int .i64 a1_0) ∧ w'.cell? ⟨c, 1, none⟩ = some (.int .i64 a1_1) ∧ w'.cell? ⟨c, 2, none⟩ = some (.int .i64 a1_2) ∧ w'.cell? ⟨c, 3, none⟩ = some (.bool a1_3) ∧ w'.cell? ⟨m, 0, none⟩ = some (.int .i64 a2)) ((repeat' apply And.intro) <;> go_simp) (first | (go_at_call 24; refine (cadence_window.calls _ _ l0_0 a0_1 a1_0 a1_1 a1_2 a1_3 s1 s2 _ (Kd.C_below hr0_0 (by repeat (with_reducible first | exact Below.refl _ _ | (refine below_set ?_ (by first | omega | exact Nat.le_refl _)) | apply below_alloc | apply pw_below_drewN | apply below_drew1))) hc0_0 hv.out).mono ?_; rintro e w1 ⟨rfl, hb1⟩; obtain ⟨hc1, hf1⟩ := bcell hb1; have ns0 : w1.cell? ⟨s, 0, none⟩ = some (.slice A0_0 l0_0.length c0_0) := (hc1 s 0 (by simpa using zs)).trans (by simpa using ks0); have ns1 : w1.cell? ⟨s, 1, none⟩ = some (.int .i64 a0_1) := (hc1 s 1 (by simpa using zs)).trans (by simpa using ks1); have nc0 : w1.cell? ⟨c, 0, none⟩ = some (.int .i64 a1_0) := (hc1 c 0 (by simpa using zc)).trans (by simpa using kc0); have nc1 : w1.cell? ⟨c, 1, none⟩ = some (.int .i64 a1_1) := (hc1 c 1 (by simpa using zc)).trans (by simpa using kc1); have nc2 : w1.cell? ⟨c, 2, none⟩ = some (.int .i64 a1_2) := (hc1 c 2 (by simpa using zc)).trans (by simpa using kc2); have nc3 : w1.cell? ⟨c, 3, none⟩ = some (.bool a1_3) := (hc1 c 3 (by simpa using zc)).trans (by simpa using kc3); have nm0 : w1.cell? ⟨m, 0, none⟩ = some (.int .i64 a2) := (hc1 m 0 (by simpa using zm)).trans (by simpa using km0); have z1 : m < w1.heap.size := (by have := hb1.size; (try simp at this); omega); have z2 : s < w1.heap.size := (by have := hb1.size; (try simp at this); omega); have z3 : c < w1.heap.size := (by have := hb1.size; (try simp at this); omega)))
  all_goals
    go_wp2
    go_ret
    exact ⟨rfl, by repeat (with_reducible first | exact Below.refl _ _ | (refine below_set ?_ (by first | omega | exact Nat.le_refl _)) | apply below_alloc | apply pw_below_drewN | apply below_drew1 | refine below_step ?_ hb1)⟩

theorem ready4 (s c m : Nat) (s1 s2 : Int) (A0_0 : Option Addr) (c0_0 : Nat) (l0_0 : List (S35)) (a0_1 : Int) (a1_0 : Int) (a1_1 : Int) (a1_2 : Int) (a1_3 : Bool) (a2 : Int) (w : World) (hr0_0 : Kd.C k35 w A0_0 l0_0.length l0_0) (hc0_0 : l0_0.length ≤ c0_0) (ks0 : w.cell? ⟨s, 0, none⟩ = some (.slice A0_0 l0_0.length c0_0)) (ks1 : w.cell? ⟨s, 1, none⟩ = some (.int .i64 a0_1)) (kc0 : w.cell? ⟨c, 0, none⟩ = some (.int .i64 a1_0)) (kc1 : w.cell? ⟨c, 1, none⟩ = some (.int .i64 a1_1)) (kc2 : w.cell? ⟨c, 2, none⟩ = some (.int .i64 a1_2)) (kc3 : w.cell? ⟨c, 3, none⟩ = some (.bool a1_3)) (km0 : w.cell? ⟨m, 0, none⟩ = some (.int .i64 a2))
    (hv_ : cadence_window.f l0_0 a0_1 a1_0 a1_1 a1_2 a1_3 = some (s1, s2)) :
    Calls Try.prog 30 #[.pointer (some ⟨m, 0, none⟩), .pointer (some ⟨s, 0, none⟩), .pointer (some ⟨c, 0, none⟩)] w fun e w' => e = .returned (.bool (decide (a2 ≤ s2))) ∧ Below w.heap.size w w' := by
  have hu24 := Try.underlying24
  have hu30 := Try.underlying30
  have hu41 := Try.underlying41
  have zm : m < w.heap.size := World.block_lt_of_cell? w _ km0
  have zs : s < w.heap.size := World.block_lt_of_cell? w _ ks0
  have zc : c < w.heap.size := World.block_lt_of_cell? w _ kc0
  have hv := Aside0.mk hv_
  clear hv_
  go_enter Try.func30, Try.ntmps30
  go_wp2_with fail
  go_region_held3 (fun w' => w'.cell? ⟨s, 0, none⟩ = some (.slice A0_0 l0_0.length c0_0) ∧ w'.cell? ⟨s, 1, none⟩ = some (.int .i64 a0_1) ∧ w'.cell? ⟨c, 0, none⟩ = some (.int .i64 a1_0) ∧ w'.cell? ⟨c, 1, none⟩ = some (.int .i64 a1_1) ∧ w'.cell? ⟨c, 2, none⟩ = some (.int .i64 a1_2) ∧ w'.cell? ⟨c, 3, none⟩ = some (.bool a1_3) ∧ w'.cell? ⟨m, 0, none⟩ = some (.int .i64 a2)) ((repeat' apply And.intro) <;> go_simp) (first | (go_at_call 24; refine (cadence_window.calls _ _ l0_0 a0_1 a1_0 a1_1 a1_2 a1_3 s1 s2 _ (Kd.C_below hr0_0 (by repeat (with_reducible first | exact Below.refl _ _ | (refine below_set ?_ (by first | omega | exact Nat.le_refl _)) | apply below_alloc | apply pw_below_drewN | apply below_drew1))) hc0_0 hv.out).mono ?_; rintro e w1 ⟨rfl, hb1⟩; obtain ⟨hc1, hf1⟩ := bcell hb1; have ns0 : w1.cell? ⟨s, 0, none⟩ = some (.slice A0_0 l0_0.length c0_0) := (hc1 s 0 (by simpa using zs)).trans (by simpa using ks0); have ns1 : w1.cell? ⟨s, 1, none⟩ = some (.int .i64 a0_1) := (hc1 s 1 (by simpa using zs)).trans (by simpa using ks1); have nc0 : w1.cell? ⟨c, 0, none⟩ = some (.int .i64 a1_0) := (hc1 c 0 (by simpa using zc)).trans (by simpa using kc0); have nc1 : w1.cell? ⟨c, 1, none⟩ = some (.int .i64 a1_1) := (hc1 c 1 (by simpa using zc)).trans (by simpa using kc1); have nc2 : w1.cell? ⟨c, 2, none⟩ = some (.int .i64 a1_2) := (hc1 c 2 (by simpa using zc)).trans (by simpa using kc2); have nc3 : w1.cell? ⟨c, 3, none⟩ = some (.bool a1_3) := (hc1 c 3 (by simpa using zc)).trans (by simpa using kc3); have nm0 : w1.cell? ⟨m, 0, none⟩ = some (.int .i64 a2) := (hc1 m 0 (by simpa using zm)).trans (by simpa using km0); have z1 : m < w1.heap.size := (by have := hb1.size; (try simp at this); omega); have z2 : s < w1.heap.size := (by have := hb1.size; (try simp at this); omega); have z3 : c < w1.heap.size := (by have := hb1.size; (try simp at this); omega)))
  all_goals
    go_wp2
    go_ret
    exact ⟨rfl, by repeat (with_reducible first | exact Below.refl _ _ | (refine below_set ?_ (by first | omega | exact Nat.le_refl _)) | apply below_alloc | apply pw_below_drewN | apply below_drew1 | refine below_step ?_ hb1)⟩

theorem ready_opens {k : Nat} {l0_0 : List (S35)} {a0_1 a1_0 a1_1 a1_2 : Int} {a1_3 : Bool} {a2 r : Int} (h : cadence_Ready.f k l0_0 a0_1 a1_0 a1_1 a1_2 a1_3 a2 = some r) :
    ∃ (v : Bool) (s1 s2 : Int), cadence_valid.f k l0_0 a0_1 a1_0 a1_1 a1_2 a1_3 = some v ∧ ((v && (decide (0 ≤ a2) && decide (a2 ≤ 38399))) = true → (!a1_3) = true → cadence_window.f l0_0 a0_1 a1_0 a1_1 a1_2 a1_3 = some (s1, s2)) ∧ r = (if (v && (decide (0 ≤ a2) && decide (a2 ≤ 38399))) = true then (if (!a1_3) = true then (if decide (s1 ≤ a2) = true then (if decide (a2 ≤ s2) = true then 0 else 17) else 16) else 11) else 1) := by
  unfold cadence_Ready.f at h
  obtain ⟨v, hv, h⟩ := Option.bind_eq_some_iff.mp h
  cases v
  · exact ⟨false, 0, 0, hv, fun h => by simp at h, by simpa using h.symm⟩
  by_cases c : 0 ≤ a2 ∧ a2 ≤ 38399
  · rw [if_pos rfl, if_pos c] at h
    cases a1_3
    · rw [if_neg (by simp)] at h
      obtain ⟨⟨s1, s2⟩, hs, h⟩ := Option.bind_eq_some_iff.mp h
      refine ⟨true, s1, s2, hv, fun _ _ => hs, ?_⟩
      simp only at h
      by_cases c1 : a2 < s1
      · rw [if_pos c1] at h
        simp [c.1, c.2, show ¬ s1 ≤ a2 by omega]; simpa using h.symm
      · rw [if_neg c1] at h
        by_cases c2 : s2 < a2
        · rw [if_pos c2] at h
          simp [c.1, c.2, show s1 ≤ a2 by omega, show ¬ a2 ≤ s2 by omega]; simpa using h.symm
        · rw [if_neg c2] at h
          simp [c.1, c.2, show s1 ≤ a2 by omega, show a2 ≤ s2 by omega]; simpa using h.symm
    · rw [if_pos rfl] at h
      exact ⟨true, 0, 0, hv, fun _ h => by simp at h, by simp [c.1, c.2]; simpa using h.symm⟩
  · rw [if_pos rfl, if_neg c] at h
    have c' : (decide (0 ≤ a2) && decide (a2 ≤ 38399)) = false := by
      cases hd : (decide (0 ≤ a2) && decide (a2 ≤ 38399))
      · rfl
      · exact absurd (by simpa using hd) c
    exact ⟨true, 0, 0, hv, fun h => by simp [c'] at h, by simp [c']; simpa using h.symm⟩

theorem cadence_Ready.calls (k : Nat) (A0_0 : Option Addr) (c0_0 : Nat) (l0_0 : List (S35)) (a0_1 : Int) (a1_0 : Int) (a1_1 : Int) (a1_2 : Int) (a1_3 : Bool) (a2 : Int)
    (r : Int) (w : World) (hr0_0 : Kd.C k35 w A0_0 l0_0.length l0_0) (hc0_0 : l0_0.length ≤ c0_0) (h : cadence_Ready.f k l0_0 a0_1 a1_0 a1_1 a1_2 a1_3 a2 = some r) :
    Calls Try.prog 19 #[.agg #[.slice A0_0 l0_0.length c0_0, .int .i64 a0_1], .agg #[.int .i64 a1_0, .int .i64 a1_1, .int .i64 a1_2, .bool a1_3], .int .i64 a2] w fun e w' => e = .returned (.int .i64 r) ∧ Below w.heap.size w w' := by
  obtain ⟨v, s1, s2, hv_, hw_, hr_⟩ := ready_opens h
  clear h
  have hv := Aside0.mk hv_
  clear hv_
  have hw := Aside0.mk hw_
  clear hw_
  have hr := Aside0.mk hr_
  clear hr_
  have hu24 := Try.underlying24
  have hu30 := Try.underlying30
  have hu54 := Try.underlying54
  have hu55 := Try.underlying55
  have hmf : ∀ (fn : Fn) (first cap : Array Value) (w : World), (Instr.makeFunc fn first cap).run Try.prog w = .ok (.func fn first cap) w := fun _ _ _ _ => rfl
  go_enter Try.func19, Try.ntmps19
  go_wp2_with fail
  refine (first4 (w.heap.size + 1 + 1 + 1) #[.pointer (some ⟨w.heap.size, 0, none⟩), .pointer (some ⟨w.heap.size + 1, 0, none⟩), .pointer (some ⟨w.heap.size + 1 + 1, 0, none⟩)] #[.pointer (some ⟨w.heap.size + 1, 0, none⟩)] #[.pointer (some ⟨w.heap.size + 1 + 1, 0, none⟩), .pointer (some ⟨w.heap.size, 0, none⟩), .pointer (some ⟨w.heap.size + 1, 0, none⟩)] #[.pointer (some ⟨w.heap.size + 1 + 1, 0, none⟩), .pointer (some ⟨w.heap.size, 0, none⟩), .pointer (some ⟨w.heap.size + 1, 0, none⟩)] (v && (decide (0 ≤ a2) && decide (a2 ≤ 38399))) (!a1_3) (decide (s1 ≤ a2)) (decide (a2 ≤ s2)) _ ?h0 ?h1 ?h2 ?h3 ?h4 ?h5 ?h6 ?h7 ?H1 ?H2 ?H3 ?H4).mono ?_
  case h0 => go_simp
  case h1 => go_simp
  case h2 => go_simp
  case h3 => go_simp
  case h4 => go_simp
  case h5 => go_simp
  case h6 => go_simp
  case h7 => go_simp
  case H1 =>
    intro W hb
    obtain ⟨hcW, hfW⟩ := bcell hb
    exact ready1 k _ _ _ v _ _ l0_0 a0_1 a1_0 a1_1 a1_2 a1_3 a2 W (Kd.C_below hr0_0 (below_step (by repeat (with_reducible first | exact Below.refl _ _ | (refine below_set ?_ (by first | omega | exact Nat.le_refl _)) | apply below_alloc | apply pw_below_drewN | apply below_drew1)) hb)) hc0_0 ((hcW _ _ (by simp <;> omega)).trans (by go_simp)) ((hcW _ _ (by simp <;> omega)).trans (by go_simp)) ((hcW _ _ (by simp <;> omega)).trans (by go_simp)) ((hcW _ _ (by simp <;> omega)).trans (by go_simp)) ((hcW _ _ (by simp <;> omega)).trans (by go_simp)) ((hcW _ _ (by simp <;> omega)).trans (by go_simp)) ((hcW _ _ (by simp <;> omega)).trans (by go_simp)) hv.out
  case H2 =>
    intro _ W hb
    obtain ⟨hcW, hfW⟩ := bcell hb
    exact ready2 _ a1_0 a1_1 a1_2 a1_3 W ((hcW _ _ (by simp <;> omega)).trans (by go_simp)) ((hcW _ _ (by simp <;> omega)).trans (by go_simp)) ((hcW _ _ (by simp <;> omega)).trans (by go_simp)) ((hcW _ _ (by simp <;> omega)).trans (by go_simp))
  case H3 =>
    intro i1 i2 W hb
    obtain ⟨hcW, hfW⟩ := bcell hb
    exact ready3 _ _ _ s1 s2 _ _ l0_0 a0_1 a1_0 a1_1 a1_2 a1_3 a2 W (Kd.C_below hr0_0 (below_step (by repeat (with_reducible first | exact Below.refl _ _ | (refine below_set ?_ (by first | omega | exact Nat.le_refl _)) | apply below_alloc | apply pw_below_drewN | apply below_drew1)) hb)) hc0_0 ((hcW _ _ (by simp <;> omega)).trans (by go_simp)) ((hcW _ _ (by simp <;> omega)).trans (by go_simp)) ((hcW _ _ (by simp <;> omega)).trans (by go_simp)) ((hcW _ _ (by simp <;> omega)).trans (by go_simp)) ((hcW _ _ (by simp <;> omega)).trans (by go_simp)) ((hcW _ _ (by simp <;> omega)).trans (by go_simp)) ((hcW _ _ (by simp <;> omega)).trans (by go_simp)) (hw.out i1 i2)
  case H4 =>
    intro i1 i2 _ W hb
    obtain ⟨hcW, hfW⟩ := bcell hb
    exact ready4 _ _ _ s1 s2 _ _ l0_0 a0_1 a1_0 a1_1 a1_2 a1_3 a2 W (Kd.C_below hr0_0 (below_step (by repeat (with_reducible first | exact Below.refl _ _ | (refine below_set ?_ (by first | omega | exact Nat.le_refl _)) | apply below_alloc | apply pw_below_drewN | apply below_drew1)) hb)) hc0_0 ((hcW _ _ (by simp <;> omega)).trans (by go_simp)) ((hcW _ _ (by simp <;> omega)).trans (by go_simp)) ((hcW _ _ (by simp <;> omega)).trans (by go_simp)) ((hcW _ _ (by simp <;> omega)).trans (by go_simp)) ((hcW _ _ (by simp <;> omega)).trans (by go_simp)) ((hcW _ _ (by simp <;> omega)).trans (by go_simp)) ((hcW _ _ (by simp <;> omega)).trans (by go_simp)) (hw.out i1 i2)
  rintro e w1 ⟨rfl, hb1⟩
  rw [← hr.out]
  go_wp2
  go_ret
  exact ⟨rfl, by repeat (with_reducible first | exact Below.refl _ _ | (refine below_set ?_ (by first | omega | exact Nat.le_refl _)) | apply below_alloc | apply pw_below_drewN | apply below_drew1 | refine below_step ?_ hb1)⟩
end Go.Proofs.Ytefaemikfihdeaa.Px
