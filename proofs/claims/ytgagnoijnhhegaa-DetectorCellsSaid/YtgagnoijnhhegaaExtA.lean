/- Contracts of the detector's functions that hold closures, in the form of the print's contracts: what each call hands back, and that it changes nothing that was there. -/
import Derived.Test.YtgagnoijnhhegaaPxx0
import Derived.BigQuiet
namespace Go.Proofs.Ytgagnoijnhhegaa.Px
open Go.RowKit Go.Proofs.YtgagnoijnhhegaaW.PrintWords Go.Proofs.YtgagnoijnhhegaaW.PrintLast Go.Proofs.YtgagnoijnhhegaaW.PrintMore
attribute [local go_sem] max2_int min2_int max_two min_two max_three min_three max_four min_four
set_option linter.unusedVariables false
set_option linter.unusedSimpArgs false

/-- Two whole numbers, handed back. -/
theorem ret_i {k : IntKind} {a b : Int} (h : a = b) : Ending.returned (.int k a) = .returned (.int k b) := by rw [h]
theorem bcell {W w1 : World} (hb : Below W.heap.size W w1) : (∀ b o, b < W.heap.size → w1.cell? ⟨b, o, none⟩ = W.cell? ⟨b, o, none⟩) ∧ (∀ b o, b < W.heap.size → w1.frozen? ⟨b, o, none⟩ = W.frozen? ⟨b, o, none⟩) :=
  ⟨fun b o h => hb.cell (p := ⟨b, o, none⟩) h, fun b o h => hb.frozen (p := ⟨b, o, none⟩) h⟩
/-- What 'clipped' tells of one number. -/
def clp (x y : Int) : Int := mx 0 (mn x y)
/-- What an exposure tells of one cell. -/
def expo (bad : Bool) (g b d x y o : Int) : Int := if bad = true then 0 else b + d + (x + y) * g / 1000 + o
/-- What a ghost is. -/
def gho (r f k : Int) : Int := if r < f then 0 else f * k / 1000
/-- What an estimate is. -/
def red (valid : Bool) (r g b d : Int) : Int := if valid = true then mx 0 (r - b - d) * 1000 / g else 0
theorem four {j : Nat} (h : j < 4) : j = 0 ∨ j = 1 ∨ j = 2 ∨ j = 3 := by omega
theorem clip1 (j : Nat) (i : Int) (hj : j < 4) (hi : i = j) (g h : Nat) (x y : Int) (w : World) (hx : w.cell? ⟨g, j, none⟩ = some (.int .i64 x)) (hy : w.cell? ⟨h, 0, none⟩ = some (.int .i64 y)) :
    Calls Try.prog 30 #[.int .i64 i, .pointer (some ⟨g, 0, none⟩), .pointer (some ⟨h, 0, none⟩)] w fun e w' => e = .returned (.int .i64 (clp x y)) ∧ ∃ n, w' = w.drewN n := by
  subst hi
  rcases four hj with rfl | rfl | rfl | rfl
  all_goals
    go_enter Try.func30, Try.ntmps30
    go_wp2
    go_quiet (fail)
    go_wp2
    all_goals
      go_ret
      refine ⟨ret_i ?_, _, rfl⟩
      unfold clp mx mn; (repeat' split) <;> omega
set_option maxHeartbeats 1000000 in
theorem exp1 (j : Nat) (i : Int) (hj : j < 4) (hi : i = j) (pb pd pl pg po : Nat) (bad : Bool) (g b d x y o : Int) (w : World)
    (hb : w.cell? ⟨pb, j, none⟩ = some (.bool bad)) (hg : w.cell? ⟨pd, 0, none⟩ = some (.int .i64 g)) (hbi : w.cell? ⟨pd, 1, none⟩ = some (.int .i64 b)) (hd : w.cell? ⟨pd, 2, none⟩ = some (.int .i64 d))
    (hx : w.cell? ⟨pl, j, none⟩ = some (.int .i64 x)) (hy : w.cell? ⟨pg, j, none⟩ = some (.int .i64 y)) (ho : w.cell? ⟨po, 0, none⟩ = some (.int .i64 o))
    (g1 : 1 ≤ g) (g2 : g ≤ 10000) (b1 : 0 ≤ b) (b2 : b ≤ 1000) (d1 : 0 ≤ d) (d2 : d ≤ 1000) (x1 : 0 ≤ x) (x2 : x ≤ 1000000) (y1 : 0 ≤ y) (y2 : y ≤ 1000000) (o1 : -50 ≤ o) (o2 : o ≤ 50) :
    Calls Try.prog 22 #[.int .i64 i, .pointer (some ⟨pb, 0, none⟩), .pointer (some ⟨pd, 0, none⟩), .pointer (some ⟨pl, 0, none⟩), .pointer (some ⟨pg, 0, none⟩), .pointer (some ⟨po, 0, none⟩)] w fun e w' => e = .returned (.int .i64 (expo bad g b d x y o)) ∧ ∃ n, w' = w.drewN n := by
  have m0 : 0 ≤ (x + y) * g := Int.mul_nonneg (by omega) (by omega)
  have m1 : (x + y) * g ≤ 20000000000 := by
    have h : (x + y) * g ≤ 2000000 * 10000 := Int.mul_le_mul (by omega) g2 (by omega) (by omega)
    omega
  subst hi
  cases bad
  · rcases four hj with rfl | rfl | rfl | rfl
    all_goals
      go_enter Try.func22, Try.ntmps22
      go_wp2
      go_quiet (fail)
      go_wp2
      go_ret
      exact ⟨rfl, _, rfl⟩
  · rcases four hj with rfl | rfl | rfl | rfl
    all_goals
      go_enter Try.func22, Try.ntmps22
      go_wp2
      go_ret
      exact ⟨rfl, 0, rfl⟩
set_option maxHeartbeats 1000000 in
theorem gho1 (j : Nat) (i : Int) (hj : j < 4) (hi : i = j) (pr pd : Nat) (r f k : Int) (w : World) (hr : w.cell? ⟨pr, j, none⟩ = some (.int .i64 r)) (hf : w.cell? ⟨pd, 3, none⟩ = some (.int .i64 f)) (hk : w.cell? ⟨pd, 4, none⟩ = some (.int .i64 k))
    (f1 : 1 ≤ f) (f2 : f ≤ 65535) (k1 : 0 ≤ k) (k2 : k ≤ 1000) :
    Calls Try.prog 27 #[.int .i64 i, .pointer (some ⟨pr, 0, none⟩), .pointer (some ⟨pd, 0, none⟩)] w fun e w' => e = .returned (.int .i64 (gho r f k)) ∧ ∃ n, w' = w.drewN n := by
  have m0 : 0 ≤ f * k := Int.mul_nonneg (by omega) (by omega)
  have m1 : f * k ≤ 65535000 := by
    have h : f * k ≤ 65535 * 1000 := Int.mul_le_mul f2 k2 (by omega) (by omega)
    omega
  subst hi
  by_cases c : r < f
  · rcases four hj with rfl | rfl | rfl | rfl
    all_goals
      go_enter Try.func27, Try.ntmps27
      go_wp2
      go_quiet (fail)
      go_wp2
      go_ret
      exact ⟨ret_i (by unfold gho; rw [if_pos (by omega)]), _, rfl⟩
  · rcases four hj with rfl | rfl | rfl | rfl
    all_goals
      go_enter Try.func27, Try.ntmps27
      go_wp2
      go_quiet (fail)
      go_wp2
      go_ret
      exact ⟨ret_i (by unfold gho; rw [if_neg (by omega)]), _, rfl⟩
set_option maxHeartbeats 1000000 in
theorem red1 (j : Nat) (i : Int) (hj : j < 4) (hi : i = j) (pv pr pd : Nat) (v : Bool) (r g b d : Int) (w : World) (hv : w.cell? ⟨pv, j, none⟩ = some (.bool v)) (hr : w.cell? ⟨pr, j, none⟩ = some (.int .i64 r))
    (hg : w.cell? ⟨pd, 0, none⟩ = some (.int .i64 g)) (hb : w.cell? ⟨pd, 1, none⟩ = some (.int .i64 b)) (hd : w.cell? ⟨pd, 2, none⟩ = some (.int .i64 d))
    (g1 : 1 ≤ g) (g2 : g ≤ 10000) (b1 : 0 ≤ b) (b2 : b ≤ 1000) (d1 : 0 ≤ d) (d2 : d ≤ 1000) (r1 : 0 ≤ r) (r2 : r ≤ 65535) :
    Calls Try.prog 29 #[.int .i64 i, .pointer (some ⟨pv, 0, none⟩), .pointer (some ⟨pr, 0, none⟩), .pointer (some ⟨pd, 0, none⟩)] w fun e w' => e = .returned (.int .i64 (red v r g b d)) ∧ ∃ n, w' = w.drewN n := by
  subst hi
  cases v
  · rcases four hj with rfl | rfl | rfl | rfl
    all_goals
      go_enter Try.func29, Try.ntmps29
      go_wp2
      go_ret
      exact ⟨rfl, 0, rfl⟩
  · by_cases c : 0 < r - b - d
    · rcases four hj with rfl | rfl | rfl | rfl
      all_goals
        go_enter Try.func29, Try.ntmps29
        go_wp2
        go_quiet (fail)
        go_wp2
        go_ret
        exact ⟨ret_i (by unfold red mx; rw [if_pos rfl, if_pos (by omega)]), _, rfl⟩
    · rcases four hj with rfl | rfl | rfl | rfl
      all_goals
        go_enter Try.func29, Try.ntmps29
        go_wp2
        go_quiet (fail)
        go_wp2
        go_ret
        exact ⟨ret_i (by unfold red mx; rw [if_pos rfl, if_neg (by omega)]; simp), _, rfl⟩

set_option maxHeartbeats 2000000 in
theorem cells30 (pg ph : Nat) (x0 x1 x2 x3 y : Int) (w : World) (h0 : w.cell? ⟨pg, 0, none⟩ = some (.int .i64 x0)) (h1 : w.cell? ⟨pg, 1, none⟩ = some (.int .i64 x1)) (h2 : w.cell? ⟨pg, 2, none⟩ = some (.int .i64 x2)) (h3 : w.cell? ⟨pg, 3, none⟩ = some (.int .i64 x3)) (hy : w.cell? ⟨ph, 0, none⟩ = some (.int .i64 y)) :
    Calls Try.prog 21 #[.func (.func 30) #[] #[.pointer (some ⟨pg, 0, none⟩), .pointer (some ⟨ph, 0, none⟩)]] w fun e w' => e = .returned (.agg #[.int .i64 (clp x0 y), .int .i64 (clp x1 y), .int .i64 (clp x2 y), .int .i64 (clp x3 y)]) ∧ Below w.heap.size w w' := by
  have hu25 := Try.underlying25
  have bl0 := World.block_lt_of_cell? w _ h0
  have bl1 := World.block_lt_of_cell? w _ hy
  go_enter Try.func21, Try.ntmps21
  go_wp2
  refine wp_loop_rounds 5 ?_
  rw [rounds_succ]
  go_wp2_with fail
  refine (clip1 0 _ (by omega) rfl pg ph x0 y _ (by go_simp) (by go_simp)).mono ?_
  rintro e w' ⟨rfl, n0, rfl⟩
  go_wp2_with fail
  rw [rounds_succ]
  go_wp2_with fail
  refine (clip1 1 _ (by omega) rfl pg ph x1 y _ (by go_simp) (by go_simp)).mono ?_
  rintro e w' ⟨rfl, n1, rfl⟩
  go_wp2_with fail
  rw [rounds_succ]
  go_wp2_with fail
  refine (clip1 2 _ (by omega) rfl pg ph x2 y _ (by go_simp) (by go_simp)).mono ?_
  rintro e w' ⟨rfl, n2, rfl⟩
  go_wp2_with fail
  rw [rounds_succ]
  go_wp2_with fail
  refine (clip1 3 _ (by omega) rfl pg ph x3 y _ (by go_simp) (by go_simp)).mono ?_
  rintro e w' ⟨rfl, n3, rfl⟩
  go_wp2_with fail
  rw [rounds_succ]
  go_wp2
  refine bodyPost_ret (v := .agg #[.int .i64 (clp x0 y), .int .i64 (clp x1 y), .int .i64 (clp x2 y), .int .i64 (clp x3 y)]) (by simp [results, Try.results21, go_sem]) rfl ⟨rfl, ?_⟩
  repeat (with_reducible first | exact Below.refl _ _ | (refine below_set ?_ (by first | omega | exact Nat.le_refl _)) | apply below_alloc | apply pw_below_drewN | apply below_drew1)

set_option maxHeartbeats 2000000 in
theorem cells22 (pb pd pl pg po : Nat) (bad0 bad1 bad2 bad3 : Bool) (g b d x0 x1 x2 x3 y0 y1 y2 y3 o : Int) (w : World) (hb0 : w.cell? ⟨pb, 0, none⟩ = some (.bool bad0)) (hb1 : w.cell? ⟨pb, 1, none⟩ = some (.bool bad1)) (hb2 : w.cell? ⟨pb, 2, none⟩ = some (.bool bad2)) (hb3 : w.cell? ⟨pb, 3, none⟩ = some (.bool bad3)) (hg : w.cell? ⟨pd, 0, none⟩ = some (.int .i64 g)) (hbi : w.cell? ⟨pd, 1, none⟩ = some (.int .i64 b)) (hd : w.cell? ⟨pd, 2, none⟩ = some (.int .i64 d)) (hx0 : w.cell? ⟨pl, 0, none⟩ = some (.int .i64 x0)) (hx1 : w.cell? ⟨pl, 1, none⟩ = some (.int .i64 x1)) (hx2 : w.cell? ⟨pl, 2, none⟩ = some (.int .i64 x2)) (hx3 : w.cell? ⟨pl, 3, none⟩ = some (.int .i64 x3)) (hy0 : w.cell? ⟨pg, 0, none⟩ = some (.int .i64 y0)) (hy1 : w.cell? ⟨pg, 1, none⟩ = some (.int .i64 y1)) (hy2 : w.cell? ⟨pg, 2, none⟩ = some (.int .i64 y2)) (hy3 : w.cell? ⟨pg, 3, none⟩ = some (.int .i64 y3)) (ho : w.cell? ⟨po, 0, none⟩ = some (.int .i64 o))
    (g1 : 1 ≤ g) (g2 : g ≤ 10000) (b1 : 0 ≤ b) (b2 : b ≤ 1000) (d1 : 0 ≤ d) (d2 : d ≤ 1000) (o1 : -50 ≤ o) (o2 : o ≤ 50) (x10 : 0 ≤ x0) (x20 : x0 ≤ 1000000) (y10 : 0 ≤ y0) (y20 : y0 ≤ 1000000) (x11 : 0 ≤ x1) (x21 : x1 ≤ 1000000) (y11 : 0 ≤ y1) (y21 : y1 ≤ 1000000) (x12 : 0 ≤ x2) (x22 : x2 ≤ 1000000) (y12 : 0 ≤ y2) (y22 : y2 ≤ 1000000) (x13 : 0 ≤ x3) (x23 : x3 ≤ 1000000) (y13 : 0 ≤ y3) (y23 : y3 ≤ 1000000) :
    Calls Try.prog 21 #[.func (.func 22) #[] #[.pointer (some ⟨pb, 0, none⟩), .pointer (some ⟨pd, 0, none⟩), .pointer (some ⟨pl, 0, none⟩), .pointer (some ⟨pg, 0, none⟩), .pointer (some ⟨po, 0, none⟩)]] w fun e w' => e = .returned (.agg #[.int .i64 (expo bad0 g b d x0 y0 o), .int .i64 (expo bad1 g b d x1 y1 o), .int .i64 (expo bad2 g b d x2 y2 o), .int .i64 (expo bad3 g b d x3 y3 o)]) ∧ Below w.heap.size w w' := by
  have hu25 := Try.underlying25
  have bl0 := World.block_lt_of_cell? w _ hb0
  have bl1 := World.block_lt_of_cell? w _ hg
  have bl2 := World.block_lt_of_cell? w _ hx0
  have bl3 := World.block_lt_of_cell? w _ hy0
  have bl4 := World.block_lt_of_cell? w _ ho
  go_enter Try.func21, Try.ntmps21
  go_wp2
  refine wp_loop_rounds 5 ?_
  rw [rounds_succ]
  go_wp2_with fail
  refine (exp1 0 _ (by omega) rfl pb pd pl pg po bad0 g b d x0 y0 o _ (by go_simp) (by go_simp) (by go_simp) (by go_simp) (by go_simp) (by go_simp) (by go_simp) g1 g2 b1 b2 d1 d2 x10 x20 y10 y20 o1 o2).mono ?_
  rintro e w' ⟨rfl, n0, rfl⟩
  go_wp2_with fail
  rw [rounds_succ]
  go_wp2_with fail
  refine (exp1 1 _ (by omega) rfl pb pd pl pg po bad1 g b d x1 y1 o _ (by go_simp) (by go_simp) (by go_simp) (by go_simp) (by go_simp) (by go_simp) (by go_simp) g1 g2 b1 b2 d1 d2 x11 x21 y11 y21 o1 o2).mono ?_
  rintro e w' ⟨rfl, n1, rfl⟩
  go_wp2_with fail
  rw [rounds_succ]
  go_wp2_with fail
  refine (exp1 2 _ (by omega) rfl pb pd pl pg po bad2 g b d x2 y2 o _ (by go_simp) (by go_simp) (by go_simp) (by go_simp) (by go_simp) (by go_simp) (by go_simp) g1 g2 b1 b2 d1 d2 x12 x22 y12 y22 o1 o2).mono ?_
  rintro e w' ⟨rfl, n2, rfl⟩
  go_wp2_with fail
  rw [rounds_succ]
  go_wp2_with fail
  refine (exp1 3 _ (by omega) rfl pb pd pl pg po bad3 g b d x3 y3 o _ (by go_simp) (by go_simp) (by go_simp) (by go_simp) (by go_simp) (by go_simp) (by go_simp) g1 g2 b1 b2 d1 d2 x13 x23 y13 y23 o1 o2).mono ?_
  rintro e w' ⟨rfl, n3, rfl⟩
  go_wp2_with fail
  rw [rounds_succ]
  go_wp2
  refine bodyPost_ret (v := .agg #[.int .i64 (expo bad0 g b d x0 y0 o), .int .i64 (expo bad1 g b d x1 y1 o), .int .i64 (expo bad2 g b d x2 y2 o), .int .i64 (expo bad3 g b d x3 y3 o)]) (by simp [results, Try.results21, go_sem]) rfl ⟨rfl, ?_⟩
  repeat (with_reducible first | exact Below.refl _ _ | (refine below_set ?_ (by first | omega | exact Nat.le_refl _)) | apply below_alloc | apply pw_below_drewN | apply below_drew1)

set_option maxHeartbeats 2000000 in
theorem cells27 (pr pd : Nat) (r0 r1 r2 r3 f k : Int) (w : World) (h0 : w.cell? ⟨pr, 0, none⟩ = some (.int .i64 r0)) (h1 : w.cell? ⟨pr, 1, none⟩ = some (.int .i64 r1)) (h2 : w.cell? ⟨pr, 2, none⟩ = some (.int .i64 r2)) (h3 : w.cell? ⟨pr, 3, none⟩ = some (.int .i64 r3)) (hf : w.cell? ⟨pd, 3, none⟩ = some (.int .i64 f)) (hk : w.cell? ⟨pd, 4, none⟩ = some (.int .i64 k)) (f1 : 1 ≤ f) (f2 : f ≤ 65535) (k1 : 0 ≤ k) (k2 : k ≤ 1000) :
    Calls Try.prog 21 #[.func (.func 27) #[] #[.pointer (some ⟨pr, 0, none⟩), .pointer (some ⟨pd, 0, none⟩)]] w fun e w' => e = .returned (.agg #[.int .i64 (gho r0 f k), .int .i64 (gho r1 f k), .int .i64 (gho r2 f k), .int .i64 (gho r3 f k)]) ∧ Below w.heap.size w w' := by
  have hu25 := Try.underlying25
  have bl0 := World.block_lt_of_cell? w _ h0
  have bl1 := World.block_lt_of_cell? w _ hf
  go_enter Try.func21, Try.ntmps21
  go_wp2
  refine wp_loop_rounds 5 ?_
  rw [rounds_succ]
  go_wp2_with fail
  refine (gho1 0 _ (by omega) rfl pr pd r0 f k _ (by go_simp) (by go_simp) (by go_simp) f1 f2 k1 k2).mono ?_
  rintro e w' ⟨rfl, n0, rfl⟩
  go_wp2_with fail
  rw [rounds_succ]
  go_wp2_with fail
  refine (gho1 1 _ (by omega) rfl pr pd r1 f k _ (by go_simp) (by go_simp) (by go_simp) f1 f2 k1 k2).mono ?_
  rintro e w' ⟨rfl, n1, rfl⟩
  go_wp2_with fail
  rw [rounds_succ]
  go_wp2_with fail
  refine (gho1 2 _ (by omega) rfl pr pd r2 f k _ (by go_simp) (by go_simp) (by go_simp) f1 f2 k1 k2).mono ?_
  rintro e w' ⟨rfl, n2, rfl⟩
  go_wp2_with fail
  rw [rounds_succ]
  go_wp2_with fail
  refine (gho1 3 _ (by omega) rfl pr pd r3 f k _ (by go_simp) (by go_simp) (by go_simp) f1 f2 k1 k2).mono ?_
  rintro e w' ⟨rfl, n3, rfl⟩
  go_wp2_with fail
  rw [rounds_succ]
  go_wp2
  refine bodyPost_ret (v := .agg #[.int .i64 (gho r0 f k), .int .i64 (gho r1 f k), .int .i64 (gho r2 f k), .int .i64 (gho r3 f k)]) (by simp [results, Try.results21, go_sem]) rfl ⟨rfl, ?_⟩
  repeat (with_reducible first | exact Below.refl _ _ | (refine below_set ?_ (by first | omega | exact Nat.le_refl _)) | apply below_alloc | apply pw_below_drewN | apply below_drew1)

set_option maxHeartbeats 2000000 in
theorem cells29 (pv pr pd : Nat) (v0 v1 v2 v3 : Bool) (r0 r1 r2 r3 g b d : Int) (w : World) (hv0 : w.cell? ⟨pv, 0, none⟩ = some (.bool v0)) (hv1 : w.cell? ⟨pv, 1, none⟩ = some (.bool v1)) (hv2 : w.cell? ⟨pv, 2, none⟩ = some (.bool v2)) (hv3 : w.cell? ⟨pv, 3, none⟩ = some (.bool v3)) (h0 : w.cell? ⟨pr, 0, none⟩ = some (.int .i64 r0)) (h1 : w.cell? ⟨pr, 1, none⟩ = some (.int .i64 r1)) (h2 : w.cell? ⟨pr, 2, none⟩ = some (.int .i64 r2)) (h3 : w.cell? ⟨pr, 3, none⟩ = some (.int .i64 r3)) (hg : w.cell? ⟨pd, 0, none⟩ = some (.int .i64 g)) (hb : w.cell? ⟨pd, 1, none⟩ = some (.int .i64 b)) (hd : w.cell? ⟨pd, 2, none⟩ = some (.int .i64 d))
    (g1 : 1 ≤ g) (g2 : g ≤ 10000) (b1 : 0 ≤ b) (b2 : b ≤ 1000) (d1 : 0 ≤ d) (d2 : d ≤ 1000) (r10 : 0 ≤ r0) (r20 : r0 ≤ 65535) (r11 : 0 ≤ r1) (r21 : r1 ≤ 65535) (r12 : 0 ≤ r2) (r22 : r2 ≤ 65535) (r13 : 0 ≤ r3) (r23 : r3 ≤ 65535) :
    Calls Try.prog 21 #[.func (.func 29) #[] #[.pointer (some ⟨pv, 0, none⟩), .pointer (some ⟨pr, 0, none⟩), .pointer (some ⟨pd, 0, none⟩)]] w fun e w' => e = .returned (.agg #[.int .i64 (red v0 r0 g b d), .int .i64 (red v1 r1 g b d), .int .i64 (red v2 r2 g b d), .int .i64 (red v3 r3 g b d)]) ∧ Below w.heap.size w w' := by
  have hu25 := Try.underlying25
  have bl0 := World.block_lt_of_cell? w _ hv0
  have bl1 := World.block_lt_of_cell? w _ h0
  have bl2 := World.block_lt_of_cell? w _ hg
  go_enter Try.func21, Try.ntmps21
  go_wp2
  refine wp_loop_rounds 5 ?_
  rw [rounds_succ]
  go_wp2_with fail
  refine (red1 0 _ (by omega) rfl pv pr pd v0 r0 g b d _ (by go_simp) (by go_simp) (by go_simp) (by go_simp) (by go_simp) g1 g2 b1 b2 d1 d2 r10 r20).mono ?_
  rintro e w' ⟨rfl, n0, rfl⟩
  go_wp2_with fail
  rw [rounds_succ]
  go_wp2_with fail
  refine (red1 1 _ (by omega) rfl pv pr pd v1 r1 g b d _ (by go_simp) (by go_simp) (by go_simp) (by go_simp) (by go_simp) g1 g2 b1 b2 d1 d2 r11 r21).mono ?_
  rintro e w' ⟨rfl, n1, rfl⟩
  go_wp2_with fail
  rw [rounds_succ]
  go_wp2_with fail
  refine (red1 2 _ (by omega) rfl pv pr pd v2 r2 g b d _ (by go_simp) (by go_simp) (by go_simp) (by go_simp) (by go_simp) g1 g2 b1 b2 d1 d2 r12 r22).mono ?_
  rintro e w' ⟨rfl, n2, rfl⟩
  go_wp2_with fail
  rw [rounds_succ]
  go_wp2_with fail
  refine (red1 3 _ (by omega) rfl pv pr pd v3 r3 g b d _ (by go_simp) (by go_simp) (by go_simp) (by go_simp) (by go_simp) g1 g2 b1 b2 d1 d2 r13 r23).mono ?_
  rintro e w' ⟨rfl, n3, rfl⟩
  go_wp2_with fail
  rw [rounds_succ]
  go_wp2
  refine bodyPost_ret (v := .agg #[.int .i64 (red v0 r0 g b d), .int .i64 (red v1 r1 g b d), .int .i64 (red v2 r2 g b d), .int .i64 (red v3 r3 g b d)]) (by simp [results, Try.results21, go_sem]) rfl ⟨rfl, ?_⟩
  repeat (with_reducible first | exact Below.refl _ _ | (refine below_set ?_ (by first | omega | exact Nat.le_refl _)) | apply below_alloc | apply pw_below_drewN | apply below_drew1)

/-! ### detector_clipped: function 23 -/
def detector_clipped.f (a0_0 a0_1 a0_2 a0_3 a1 : Int) : Option (Int × Int × Int × Int) := some (clp a0_0 a1, clp a0_1 a1, clp a0_2 a1, clp a0_3 a1)
theorem detector_clipped.calls (a0_0 : Int) (a0_1 : Int) (a0_2 : Int) (a0_3 : Int) (a1 : Int) (r1 : Int) (r2 : Int) (r3 : Int) (r4 : Int) (w : World) (h : detector_clipped.f a0_0 a0_1 a0_2 a0_3 a1 = some (r1, r2, r3, r4)) :
    Calls Try.prog 23 #[.agg #[.int .i64 a0_0, .int .i64 a0_1, .int .i64 a0_2, .int .i64 a0_3], .int .i64 a1] w fun e w' => e = .returned (.agg #[.int .i64 r1, .int .i64 r2, .int .i64 r3, .int .i64 r4]) ∧ Below w.heap.size w w' := by
  simp only [detector_clipped.f, Option.some.injEq, Prod.mk.injEq] at h
  obtain ⟨rfl, rfl, rfl, rfl⟩ := h
  have hu25 := Try.underlying25
  have hmf : ∀ (fn : Fn) (first cap : Array Value) (w : World), (Instr.makeFunc fn first cap).run Try.prog w = .ok (.func fn first cap) w := fun _ _ _ _ => rfl
  go_enter Try.func23, Try.ntmps23
  go_wp2_with fail
  refine (cells30 _ _ a0_0 a0_1 a0_2 a0_3 a1 _ ?h0 ?h1 ?h2 ?h3 ?hy).mono ?_
  case h0 => go_simp
  case h1 => go_simp
  case h2 => go_simp
  case h3 => go_simp
  case hy => go_simp
  rintro e w1 ⟨rfl, hb⟩
  obtain ⟨hc, hf⟩ := bcell hb
  have hz := hb.size
  go_wp2
  refine bodyPost_ret (v := .agg #[.int .i64 (clp a0_0 a1), .int .i64 (clp a0_1 a1), .int .i64 (clp a0_2 a1), .int .i64 (clp a0_3 a1)]) (by simp [results, Try.results23, go_sem, hc, hz]) rfl ⟨rfl, ?_⟩
  repeat (with_reducible first | exact Below.refl _ _ | (refine below_set ?_ (by first | omega | exact Nat.le_refl _)) | apply below_alloc | apply pw_below_drewN | apply below_drew1 | refine below_step ?_ hb)
end Go.Proofs.Ytgagnoijnhhegaa.Px
