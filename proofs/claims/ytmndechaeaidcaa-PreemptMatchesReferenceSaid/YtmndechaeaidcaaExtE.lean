/- Worst, walked. -/
import Derived.Test.YtmndechaeaidcaaExtD
import Derived.Deep.DeepCutAuto
import Derived.Deep.CutBlock
namespace Go.Proofs.Ytmndechaeaidcaa.Px
open Go.RowKit Go.Proofs.YtmndechaeaidcaaW.PrintWords Go.Proofs.YtmndechaeaidcaaW.PrintLast Go.Proofs.YtmndechaeaidcaaW.PrintMore
attribute [local go_sem] max2_int min2_int max_two min_two max_three min_three max_four min_four World.size_setCell
attribute [local go_sem ↓] Go.wp_at_zero Go.wp_at_succ
set_option linter.unusedVariables false
set_option linter.unusedSimpArgs false
theorem worst_rel {w w1 w2 : World} {B j gk : Nat} {a1 wo wo' s : Int} {x : S37} {cur l0 : List S37} (hs : s = sumC (keep (x.f0 - a1) (cur ++ [x]))) (hat : AtP w1 w.heap.size B a1 (keep (x.f0 - a1) (cur ++ [x])) w2) (hb : Below w.heap.size w w1) (hB : w.heap.size ≤ B)
    (hF : j + gk = l0.length ∧ cur.length ≤ j ∧ Ok cur ∧ worstV a1 cur wo (l0.drop j) = worstV a1 [] 0 l0) (hj : j < l0.length) (hw : worstV a1 cur wo (x :: l0.drop (j + 1)) = worstV a1 [] 0 l0) (ho : Ok (cur ++ [x])) (hm : wo' = mx wo s) (hl : l0.length ≤ 200) :
    ∃ (wo1 : Int) (j1 : Nat) (v1 : Value) (cur1 : List S37), Value.int .i64 wo' = .int .i64 wo1 ∧ Value.int .i64 ((j : Int) + 1) = .int .i64 (j1 : Int) ∧ Aside0 (w2.heap[B]? = some (.cells #[v1, .int .i64 a1, .int .i64 (sumC cur1)] 46 (0, 0))) ∧ Aside0 (RowT w2 w.heap.size v1 cur1) ∧ Aside0 (Below w.heap.size w w2) ∧ Aside0 (j1 + (gk - 1) = l0.length ∧ cur1.length ≤ j1 ∧ Ok cur1 ∧ worstV a1 cur1 wo1 (l0.drop j1) = worstV a1 [] 0 l0) := by
  obtain ⟨v', h1, h2, h3⟩ := hat
  refine ⟨wo', j + 1, v', _, rfl, rfl, ⟨h1⟩, ⟨h2⟩, ⟨hb.grown h3 hb.size (fun k hk => by injection hk with hk; omega)⟩, ⟨by omega, ?_, keep_ok ho, ?_⟩⟩
  · have := keep_len (x.f0 - a1) (cur ++ [x])
    simp only [List.length_append, List.length_singleton] at this
    omega
  · rw [← hw, hm, hs]
    rfl
set_option maxHeartbeats 2000000 in
theorem preempt_Worst.calls (k : Nat) (A0 : Option Addr) (c0 : Nat) (l0 : List (S37)) (a1 : Int) (r1 : Int) (r2 : Int) (w : World) (hr0 : Kd.C k37 w A0 l0.length l0) (hc0 : l0.length ≤ c0) (h : preempt_Worst.f k l0 a1 = some (r1, r2)) :
    Calls Try.prog 12 #[.slice A0 l0.length c0, .int .i64 a1] w fun e w' => e = .returned (.tuple #[.int .i64 r1, .int .i64 r2]) ∧ Below w.heap.size w w' := by
  have hmax := Kd.C_max hr0
  obtain ⟨K, hK⟩ := valid_ev l0 hmax
  have hV := Aside0.mk (hK K (Nat.le_refl _))
  have hL := Aside0.mk (limits_f a1 0)
  have HR := Aside0.mk hr0
  have HC := Aside0.mk hc0
  have hh := Aside0.mk (Option.some.inj h)
  clear hr0 hc0 h hK
  have hu37 := Try.underlying37
  have hu46 := Try.underlying46
  by_cases v : VL l0 = true
  · have hv := Aside0.mk v
    clear v
    by_cases lm : LM a1 0 = true
    · have hlm := Aside0.mk lm
      clear lm
      obtain ⟨ho_, hl_⟩ := VL_ok hv.out
      obtain ⟨w1_, w2_, _, _⟩ := LM_bd hlm.out
      have hr : r1 = worstV a1 [] 0 l0 ∧ r2 = 0 := by
        have := hh.out
        rw [hv.out, hlm.out] at this
        simp only [Bool.true_and, if_true, Prod.mk.injEq] at this
        exact ⟨this.1.symm, this.2.symm⟩
      obtain ⟨hr1, rfl⟩ := hr
      have hres := Aside0.mk hr1
      have ho := Aside0.mk ho_
      have hl := Aside0.mk hl_
      clear hr1 ho_ hl_ hh
      go_enter Try.func12, Try.ntmps12
      go_wp2_with fail
      refine (preempt_valid.calls K _ _ l0 true _ (Kd.C_below HR.out (by repeat (with_reducible first | exact Below.refl _ _ | (refine below_set ?_ (by first | omega | exact Nat.le_refl _)) | apply below_alloc | apply pw_below_drewN | apply below_drew1))) HC.out (hV.out.trans (congrArg some hv.out))).mono ?_
      rintro e wa ⟨rfl, hba⟩
      go_wp2_with fail
      refine (preempt_limits.calls a1 0 true _ (hL.out.trans (congrArg some hlm.out))).mono ?_
      rintro e wb ⟨rfl, hbb_⟩
      have hbb := hbb_.below
      clear hbb_
      have hsz : w.heap.size ≤ wb.heap.size := Nat.le_trans hba.size hbb.size
      have HBB := Aside0.mk (show Below w.heap.size w wb from below_step hba hbb)
      clear hba hbb
      go_wp2_with fail
      obtain ⟨B, hBe_⟩ : ∃ B, B = wb.heap.size := ⟨_, rfl⟩
      rw [← hBe_]
      have hB0 := blk_new wb (.cells #[.slice none 0 0, .int .i64 a1, .int .i64 0] 46)
      rw [← hBe_] at hB0
      have hBW : w.heap.size ≤ B := by omega
      have HX := Aside0.mk (show (wb.alloc (.cells #[.slice none 0 0, .int .i64 a1, .int .i64 0] 46)).heap[B]? = some (.cells #[.slice none 0 0, .int .i64 a1, .int .i64 (sumC [])] 46 (0, 0)) from hB0)
      have HY := Aside0.mk (HBB.out.alloc hsz (.cells #[.slice none 0 0, .int .i64 a1, .int .i64 0] 46))
      clear hB0 HBB hBe_
      go_loopg [7, 22] l0.length (fun kq v7 v22 w' => ∃ (wo : Int) (j : Nat) (v : Value) (cur : List S37), v7 = .int .i64 wo ∧ v22 = .int .i64 (j : Int) ∧ Aside0 (w'.heap[B]? = some (.cells #[v, .int .i64 a1, .int .i64 (sumC cur)] 46 (0, 0))) ∧ Aside0 (RowT w' w.heap.size v cur) ∧ Aside0 (Below w.heap.size w w') ∧ Aside0 (j + kq = l0.length ∧ cur.length ≤ j ∧ Ok cur ∧ worstV a1 cur wo (l0.drop j) = worstV a1 [] 0 l0))
      case atStart => exact ⟨0, 0, _, [], rfl, rfl, HX, ⟨RowT.nil _ _⟩, HY, ⟨by omega, Nat.le_refl _, (fun x hx => by cases hx), rfl⟩⟩
      case round =>
        clear HX HY
        obtain ⟨wo, j, v, cur, rfl, rfl, HX, HRow, HB, HF⟩ := hrel
        obtain ⟨wk, rfl⟩ : ∃ wk, wk = wr := ⟨_, rfl⟩
        have zB := blk_lt HX.out
        have hsw : w.heap.size ≤ wk.heap.size := HB.out.size
        by_cases hj : j < l0.length
        · have hjb : decide (j < l0.length) = true := decide_eq_true hj
          have hjn := Aside0.mk hj
          have hj0 : (0 : Int) ≤ (j : Int) := by omega
          have hj1 : (j : Int) < (l0.length : Int) := by omega
          obtain ⟨ad, e_, hx0, hx1⟩ := at_T37 (Kd.C_below HR.out HB.out) (j : Int) hj0 hj1
          subst e_
          simp only [Int.toNat_natCast] at hx0 hx1
          have hox := ho.out.rd hj0 hj1
          have hwj := HF.out.2.2.2
          rw [rd_drop l0 j hj] at hwj
          generalize hxg_ : rd_T37 l0 (j : Int) = x at hx0 hx1 hox hwj
          have hwj' := Aside0.mk hwj
          clear hwj hj hxg_
          obtain ⟨p1, p2, p3, p4⟩ := hox
          have hcl : cur.length ≤ 200 := by have h1_ := HF.out.2.1; have h2_ := hl.out; have h3_ := hjn.out; omega
          have hsb := sumC_bd HF.out.2.2.1
          obtain ⟨q1, q2⟩ := hsb
          have hcl' := Aside0.mk hcl
          have q3 : sumC cur ≤ 200000 := by omega
          have hsn := sumC_snoc x cur
          clear hcl q2
          go_wp2_with fail
          refine (add_calls _ w.heap.size B a1 (sumC cur) x v cur (blk_alloc HX.out _) (HRow.out.below (by repeat (with_reducible first | exact Below.refl _ _ | (refine below_set ?_ (by first | omega | exact Nat.le_refl _)) | apply below_alloc | apply pw_below_drewN | apply below_drew1))) (by simp; omega) (by have h_ := hcl'.out; omega) q1 (by omega) p3 p4).mono ?_
          rintro e w1 ⟨rfl, hadd⟩
          obtain ⟨v2, hB2, hR2, hbel, hkeep⟩ := hadd
          have hbW : Below w.heap.size wk w1 := ((Below.refl _ _).alloc hsw _).trans (hbel w.heap.size hBW (fun k_ hk_ => (HRow.out.own k_ hk_).1) (by simp; omega))
          have hXc := (hkeep wk.heap.size (by simp) (by omega) (fun e => by have := (HRow.out.own _ e.symm).2.1; omega)).trans (blk_new wk _)
          have d0 : w1.cell? ⟨wk.heap.size, 0, none⟩ = some (.int .i64 x.f0) := (blk_cell hXc 0).trans rfl
          rw [← hsn] at hB2
          have HB2 := Aside0.mk hB2
          have HR2 := Aside0.mk hR2
          have HBW := Aside0.mk (HB.out.trans hbW)
          have hok2 := Aside0.mk (HF.out.2.2.1.snoc ⟨p1, p2, p3, p4⟩)
          clear hB2 hR2 hbel hkeep hbW hXc hsn
          go_wp2_with fail
          obtain ⟨s, hs_⟩ : ∃ s, s = sumC (keep (x.f0 - a1) (cur ++ [x])) := ⟨_, rfl⟩
          refine (at_calls _ w.heap.size B a1 x.f0 v2 (cur ++ [x]) HB2.out HR2.out (by have h_ := hcl'.out; simp; omega) hok2.out p1 p2 w1_ w2_).mono ?_
          rintro e w2 ⟨he, hat⟩
          rw [← hs_] at he
          subst he
          have hs := Aside0.mk hs_
          have hat' := Aside0.mk hat
          clear hs_ hat
          go_wp2
          all_goals
            go_roundg (gk - 1)
            case measure => have h_ := HF.out; have h2_ := hjn.out; omega
            case rel => exact worst_rel hs.out hat'.out HBW.out hBW HF.out hjn.out hwj'.out hok2.out (by unfold mx; split <;> first | rfl | omega) (by have h_ := hl.out; exact h_)
        · have hjb : decide (j < l0.length) = false := decide_eq_false hj
          have hjn := Aside0.mk hj
          clear hj
          go_wp2
          go_ret2
          have e1 := HF.out.2.2.2
          rw [List.drop_of_length_le (by have h_ := hjn.out; omega)] at e1
          have e2 : r1 = wo := by rw [hres.out, ← e1]; rfl
          subst e2
          exact ⟨rfl, HB.out⟩
    · have hlm := Aside0.mk (show LM a1 0 = false by simpa using lm)
      clear lm
      have hr : r1 = 0 ∧ r2 = 1 := by
        have := hh.out
        rw [hv.out, hlm.out] at this
        simp only [Bool.and_false, Bool.false_eq_true, if_false, Prod.mk.injEq] at this
        exact ⟨this.1.symm, this.2.symm⟩
      obtain ⟨rfl, rfl⟩ := hr
      clear hh
      go_enter Try.func12, Try.ntmps12
      go_wp2_with fail
      refine (preempt_valid.calls K _ _ l0 true _ (Kd.C_below HR.out (by repeat (with_reducible first | exact Below.refl _ _ | (refine below_set ?_ (by first | omega | exact Nat.le_refl _)) | apply below_alloc | apply pw_below_drewN | apply below_drew1))) HC.out (hV.out.trans (congrArg some hv.out))).mono ?_
      rintro e wa ⟨rfl, hba⟩
      go_wp2_with fail
      refine (preempt_limits.calls a1 0 false _ (hL.out.trans (congrArg some hlm.out))).mono ?_
      rintro e wb ⟨rfl, hbb_⟩
      have HBB := Aside0.mk (show Below w.heap.size w wb from below_step hba hbb_.below)
      clear hba hbb_
      go_wp2
      go_ret2
      exact ⟨rfl, HBB.out⟩
  · have hv := Aside0.mk (show VL l0 = false by simpa using v)
    clear v
    have hr : r1 = 0 ∧ r2 = 1 := by
      have := hh.out
      rw [hv.out] at this
      simp only [Bool.false_and, Bool.false_eq_true, if_false, Prod.mk.injEq] at this
      exact ⟨this.1.symm, this.2.symm⟩
    obtain ⟨rfl, rfl⟩ := hr
    clear hh
    go_enter Try.func12, Try.ntmps12
    go_wp2_with fail
    refine (preempt_valid.calls K _ _ l0 false _ (Kd.C_below HR.out (by repeat (with_reducible first | exact Below.refl _ _ | (refine below_set ?_ (by first | omega | exact Nat.le_refl _)) | apply below_alloc | apply pw_below_drewN | apply below_drew1))) HC.out (hV.out.trans (congrArg some hv.out))).mono ?_
    rintro e wa ⟨rfl, hba⟩
    have HBB := Aside0.mk hba
    clear hba
    go_wp2
    go_ret2
    exact ⟨rfl, HBB.out⟩
end Go.Proofs.Ytmndechaeaidcaa.Px
