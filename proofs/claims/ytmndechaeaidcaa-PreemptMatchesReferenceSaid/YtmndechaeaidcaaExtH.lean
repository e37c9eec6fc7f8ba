/- Run, walked. -/
import Derived.Test.YtmndechaeaidcaaExtG
import Derived.Laws.EntriesVeiled
import Derived.Maps.AppendAt
import Derived.Deep.DeepCutAuto
import Derived.Deep.CutBlock
namespace Go.Proofs.Ytmndechaeaidcaa.Px
open Go.RowKit Go.Proofs.YtmndechaeaidcaaW.PrintWords Go.Proofs.YtmndechaeaidcaaW.PrintLast Go.Proofs.YtmndechaeaidcaaW.PrintMore
attribute [local go_sem] max2_int min2_int max_two min_two max_three min_three max_four min_four World.size_setCell
attribute [local go_sem ↓] Go.wp_at_zero Go.wp_at_succ
set_option linter.unusedVariables false
set_option linter.unusedSimpArgs false
attribute [local go_sem] run_store_func
def RunP (w : World) (r1 : List Bool) (r2 : Int) (e : Ending) (w' : World) : Prop := ∃ v0_ : Value, e = .returned (.tuple #[v0_, .int .i64 r2]) ∧ Kd.R Kd.bool 4 w' w.heap.size (fun _ => True) v0_ r1 ∧ Below w.heap.size w w'
theorem Rb_dec {w w1 : World} {base B : Nat} {win : Int} {cur : List S37} {v : Value} {outs : List Bool} {cs : Array Value} (h : Kd.R Kd.bool 4 w base (fun _ => True) v outs) (hB : w.heap[B]? = some (.cells cs 46 (0, 0))) (hd : DecP w base B win cur w1) : Kd.R Kd.bool 4 w1 base (fun _ => True) v outs := by
  obtain ⟨_, _, _, _, hk⟩ := hd
  refine Kd.R_mono (Kd.R_move (Kd.R_bound h) (fun k hb => ?_)) (fun _ _ => trivial)
  obtain ⟨_, _, _, q, hq, cells, hc⟩ := hb
  have hq4 : q = 4 := by simpa [Kd.bool, Kd.scalar] using hq
  subst hq4
  refine hk k 4 cells hc (by decide) (fun e => ?_)
  rw [e, hB] at hc
  injection hc with hc
  injection hc with h1 h2 h3
  exact absurd h2 (by decide)
theorem blk_new2 (w : World) (x y : Obj) : ((w.alloc x).alloc y).heap[w.heap.size + 1]? = some y := by
  have h := blk_new (w.alloc x) y
  rwa [show (w.alloc x).heap.size = w.heap.size + 1 from by simp] at h
theorem run_rel {w W w1 w2 : World} {B S j gk : Nat} {a0 a1 : Int} {x : S37} {cur l2 : List S37} {outs : List Bool} {v1 vo : Value} {fc bc : Array Value} {b : Bool} (hd : DecP W w.heap.size B a0 (if sumC (keep (x.f0 - a0) cur) + x.f1 > a1 then keep (x.f0 - a0) cur else keep (x.f0 - a0) cur ++ [x]) w1) (hg : w1.grownBy w2 vo.ownBlock)
    (hty : ∀ k, vo.ownBlock = some k → ∃ cells, w1.heap[k]? = some (.cells cells 4 (0, 0))) (hS : W.heap[S]? = some (.cells fc 47 (0, 0))) (hT : W.heap[w.heap.size]? = some (.cells bc 3 (0, 0))) (hSB : S ≠ B) (hTB : w.heap.size ≠ B) (hR : Kd.R Kd.bool 4 w2 w.heap.size (fun _ => True) v1 (outs ++ [b])) (hb2 : Below w.heap.size w w2)
    (hF : j + gk = l2.length ∧ cur.length ≤ j ∧ Ok cur ∧ outs.length = j ∧ outs ++ runV a0 a1 cur (l2.drop j) = runV a0 a1 [] l2) (hj : j < l2.length) (hw : outs ++ runV a0 a1 cur (x :: l2.drop (j + 1)) = runV a0 a1 [] l2) (hx : 0 ≤ x.f0 ∧ x.f0 ≤ 38399 ∧ 0 ≤ x.f1 ∧ x.f1 ≤ 1000) (hb : b = (if sumC (keep (x.f0 - a0) cur) + x.f1 > a1 then false else true)) :
    ∃ (vo' : Value) (outs' : List Bool) (j' : Nat) (v' : Value) (cur' : List S37), v1 = vo' ∧ Value.int .i64 ((j : Int) + 1) = .int .i64 (j' : Int) ∧ Aside0 (w2.heap[B]? = some (.cells #[v', .int .i64 a0, .int .i64 (sumC cur')] 46 (0, 0))) ∧ Aside0 (RowT w2 w.heap.size v' cur') ∧ Aside0 (w2.heap[S]? = some (.cells fc 47 (0, 0))) ∧ Aside0 (w2.heap[w.heap.size]? = some (.cells bc 3 (0, 0))) ∧ Aside0 (Kd.R Kd.bool 4 w2 w.heap.size (fun _ => True) vo' outs') ∧ Aside0 (Below w.heap.size w w2) ∧ Aside0 (j' + (gk - 1) = l2.length ∧ cur'.length ≤ j' ∧ Ok cur' ∧ outs'.length = j' ∧ outs' ++ runV a0 a1 cur' (l2.drop j') = runV a0 a1 [] l2) := by
  obtain ⟨v', g1, g2, g3, g4⟩ := hd
  have ne : ∀ {k t : Nat} {cs : Array Value}, w1.heap[k]? = some (.cells cs t (0, 0)) → t ≠ 4 → some k ≠ vo.ownBlock := by
    intro k t cs hk ht e
    obtain ⟨cells, hc⟩ := hty k e.symm
    rw [hk] at hc
    injection hc with hc
    injection hc with h1 h2 h3
    exact ht h2
  have s1 := (g4 S 47 fc hS (by decide) hSB).trans hS
  have t1 := (g4 w.heap.size 3 bc hT (by decide) hTB).trans hT
  refine ⟨v1, outs ++ [b], j + 1, v', _, rfl, rfl, ⟨blk_grown g1 hg (ne g1 (by decide))⟩, ⟨g2.move (fun k hk => ?_)⟩, ⟨blk_grown s1 hg (ne s1 (by decide))⟩, ⟨blk_grown t1 hg (ne t1 (by decide))⟩, ⟨hR⟩, ⟨hb2⟩, ⟨by omega, ?_, ?_, ?_, ?_⟩⟩
  · obtain ⟨_, h2, cells, h3⟩ := g2.own k hk
    exact hg.block k h2 (ne h3 (by decide))
  · have := keep_len (x.f0 - a0) cur
    split
    · omega
    · simp only [List.length_append, List.length_singleton]
      omega
  · split
    · exact keep_ok hF.2.2.1
    · exact (keep_ok hF.2.2.1).snoc hx
  · simp only [List.length_append, List.length_singleton]
    omega
  · rw [← hw, hb]
    conv => rhs; unfold runV
    by_cases c : sumC (keep (x.f0 - a0) cur) + x.f1 > a1
    · simp only [if_pos c, List.append_assoc, List.singleton_append]
    · simp only [if_neg c, List.append_assoc, List.singleton_append]
set_option maxRecDepth 100000 in
set_option maxHeartbeats 2000000 in
theorem run_calls (k : Nat) (a0 : Int) (a1 : Int) (A2 : Option Addr) (c2 : Nat) (l2 : List (S37)) (r1 : List Bool) (r2 : Int) (w : World) (hr2 : Kd.C k37 w A2 l2.length l2) (hc2 : l2.length ≤ c2) (h : preempt_Run.f k a0 a1 l2 = some (r1, r2)) :
    Calls Try.prog 10 #[.int .i64 a0, .int .i64 a1, .slice A2 l2.length c2] w (RunP w r1 r2) := by
  have hmax := Kd.C_max hr2
  obtain ⟨K, hK⟩ := valid_ev l2 hmax
  have hV := Aside0.mk (hK K (Nat.le_refl _))
  have hL := Aside0.mk (limits_f a0 a1)
  have HR := Aside0.mk hr2
  have HC := Aside0.mk hc2
  have hh := Aside0.mk (Option.some.inj h)
  clear hr2 hc2 h hK
  have hu37 := Try.underlying37
  have hu46 := Try.underlying46
  have hu47 := Try.underlying47
  by_cases v : VL l2 = true
  · have hv := Aside0.mk v
    clear v
    by_cases lm : LM a0 a1 = true
    · have hlm := Aside0.mk lm
      clear lm
      obtain ⟨ho_, hl_⟩ := VL_ok hv.out
      obtain ⟨w1_, w2_, w3_, w4_⟩ := LM_bd hlm.out
      have hr : r1 = runV a0 a1 [] l2 ∧ r2 = 0 := by
        have := hh.out
        rw [hv.out, hlm.out] at this
        simp only [Bool.true_and, if_true, Prod.mk.injEq] at this
        exact ⟨this.1.symm, this.2.symm⟩
      obtain ⟨hr1, rfl⟩ := hr
      have hres := Aside0.mk hr1
      have ho := Aside0.mk ho_
      have hl := Aside0.mk hl_
      clear hr1 ho_ hl_ hh
      go_enter Try.func10, Try.ntmps10
      go_wp2_with fail
      refine (preempt_valid.calls K _ _ l2 true _ (Kd.C_below HR.out (by repeat (with_reducible first | exact Below.refl _ _ | (refine below_set ?_ (by first | omega | exact Nat.le_refl _)) | apply below_alloc | apply pw_below_drewN | apply below_drew1))) HC.out (hV.out.trans (congrArg some hv.out))).mono ?_
      rintro e wa ⟨rfl, hba⟩
      obtain ⟨hca, hfa⟩ := bcell hba
      have zT0 : w.heap.size < wa.heap.size := by have := hba.size; (try simp at this); omega
      have hTa : wa.heap[w.heap.size]? = some (.cells #[.int .i64 a1] 3 (0, 0)) := (hba.block _ (by simp)).trans (blk_new w _)
      go_wp2_with fail
      refine (preempt_limits.calls a0 a1 true _ (hL.out.trans (congrArg some hlm.out))).mono ?_
      rintro e wb ⟨rfl, hbb_⟩
      have hbb := hbb_.below
      clear hbb_
      have hTb := (hbb.block _ zT0).trans hTa
      have zT : w.heap.size < wb.heap.size := Nat.lt_of_lt_of_le zT0 hbb.size
      have HBB := Aside0.mk (show Below w.heap.size w wb from below_step (by repeat (with_reducible first | exact Below.refl _ _ | (refine below_set ?_ (by first | omega | exact Nat.le_refl _)) | apply below_alloc | apply pw_below_drewN | apply below_drew1 | refine below_step ?_ hba)) hbb)
      have HTb := Aside0.mk hTb
      clear hba hbb hca hfa hTa hTb zT0
      go_wp2_with fail
      obtain ⟨B, hBe_⟩ : ∃ B, B = wb.heap.size := ⟨_, rfl⟩
      obtain ⟨S, hSe_⟩ : ∃ S, S = wb.heap.size + 1 := ⟨_, rfl⟩
      have HX := Aside0.mk (show ((wb.alloc (.cells #[.slice none 0 0, .int .i64 a0, .int .i64 0] 46)).alloc (.cells #[.func (.func 21) #[.pointer (some ⟨wb.heap.size, 0, none⟩)] #[]] 47)).heap[wb.heap.size]? = some (.cells #[.slice none 0 0, .int .i64 a0, .int .i64 (sumC [])] 46 (0, 0)) from blk_alloc (blk_new wb _) _)
      have HS := Aside0.mk (blk_new2 wb (.cells #[.slice none 0 0, .int .i64 a0, .int .i64 0] 46) (.cells #[.func (.func 21) #[.pointer (some ⟨wb.heap.size, 0, none⟩)] #[]] 47))
      have HT := Aside0.mk (blk_alloc (blk_alloc HTb.out (.cells #[.slice none 0 0, .int .i64 a0, .int .i64 0] 46)) (.cells #[.func (.func 21) #[.pointer (some ⟨wb.heap.size, 0, none⟩)] #[]] 47))
      have HY := Aside0.mk ((HBB.out.alloc HBB.out.size (.cells #[.slice none 0 0, .int .i64 a0, .int .i64 0] 46)).alloc (by have := HBB.out.size; simp; omega) (.cells #[.func (.func 21) #[.pointer (some ⟨wb.heap.size, 0, none⟩)] #[]] 47))
      rw [← hSe_] at HS ⊢
      rw [← hBe_] at HX HS HT HY ⊢
      have hBW : w.heap.size < B := by omega
      have hSB : S ≠ B := by omega
      have hTB : w.heap.size ≠ B := by omega
      clear HBB HTb hBe_ hSe_ zT
      generalize (wb.alloc (.cells #[.slice none 0 0, .int .i64 a0, .int .i64 0] 46)).alloc (.cells #[.func (.func 21) #[.pointer (some ⟨B, 0, none⟩)] #[]] 47) = wc at HX HS HT HY ⊢
      go_loopg [11, 29] l2.length (fun kq v11 v29 w' => ∃ (vo : Value) (outs : List Bool) (j : Nat) (v : Value) (cur : List S37), v11 = vo ∧ v29 = .int .i64 (j : Int) ∧ Aside0 (w'.heap[B]? = some (.cells #[v, .int .i64 a0, .int .i64 (sumC cur)] 46 (0, 0))) ∧ Aside0 (RowT w' w.heap.size v cur) ∧ Aside0 (w'.heap[S]? = some (.cells #[.func (.func 21) #[.pointer (some ⟨B, 0, none⟩)] #[]] 47 (0, 0))) ∧ Aside0 (w'.heap[w.heap.size]? = some (.cells #[.int .i64 a1] 3 (0, 0))) ∧ Aside0 (Kd.R Kd.bool 4 w' w.heap.size (fun _ => True) vo outs) ∧ Aside0 (Below w.heap.size w w') ∧ Aside0 (j + kq = l2.length ∧ cur.length ≤ j ∧ Ok cur ∧ outs.length = j ∧ outs ++ runV a0 a1 cur (l2.drop j) = runV a0 a1 [] l2))
      case atStart => exact ⟨_, [], 0, _, [], rfl, rfl, HX, ⟨RowT.nil _ _⟩, HS, HT, ⟨Kd.R_nil _ _ _ _ _⟩, HY, ⟨by omega, Nat.le_refl _, (fun x hx => by cases hx), rfl, rfl⟩⟩
      case round =>
        clear HX HY HS HT
        obtain ⟨vo, outs, j, v, cur, rfl, rfl, HX, HRow, HS, HT, HO, HB, HF⟩ := hrel
        obtain ⟨wk, rfl⟩ : ∃ wk, wk = wr := ⟨_, rfl⟩
        have zB := blk_lt HX.out
        have hsw : w.heap.size ≤ wk.heap.size := HB.out.size
        by_cases hj : j < l2.length
        · have hjb : decide (j < l2.length) = true := decide_eq_true hj
          have hjn := Aside0.mk hj
          have hj0 : (0 : Int) ≤ (j : Int) := by omega
          have hj1 : (j : Int) < (l2.length : Int) := by omega
          obtain ⟨ad, e_, hx0, hx1⟩ := at_T37 (Kd.C_below HR.out HB.out) (j : Int) hj0 hj1
          subst e_
          simp only [Int.toNat_natCast] at hx0 hx1
          have hox := ho.out.rd hj0 hj1
          have hwj := HF.out.2.2.2.2
          rw [rd_drop l2 j hj] at hwj
          generalize hxg_ : rd_T37 l2 (j : Int) = x at hx0 hx1 hox hwj
          have hwj' := Aside0.mk hwj
          clear hwj hj hxg_
          obtain ⟨p1, p2, p3, p4⟩ := hox
          have hcl : cur.length ≤ 200 := by have h1_ := HF.out.2.1; have h2_ := hl.out; have h3_ := hjn.out; omega
          have hcl' := Aside0.mk hcl
          clear hcl
          obtain ⟨A5, c5, hv5⟩ := Kd.R_slice HO.out
          subst hv5
          go_wp2_with fail
          refine (decide_calls (wk.alloc _) w.heap.size B S w.heap.size a0 a1 x v cur ((blk_cell (blk_alloc HS.out _) 0).trans rfl) ((blk_cell (blk_alloc HT.out _) 0).trans rfl) hSB hTB (blk_alloc HX.out _) (HRow.out.below (by repeat (with_reducible first | exact Below.refl _ _ | (refine below_set ?_ (by first | omega | exact Nat.le_refl _)) | apply below_alloc | apply pw_below_drewN | apply below_drew1))) (by simp; omega) (by have h_ := hcl'.out; omega) HF.out.2.2.1 p1 p2 p3 p4 w1_ w2_ w3_ w4_).mono ?_
          rintro e w1 ⟨he, hdec⟩
          obtain ⟨b, hb_⟩ : ∃ b, b = (if sumC (keep (x.f0 - a0) cur) + x.f1 > a1 then false else true) := ⟨_, rfl⟩
          rw [← hb_] at he
          subst he
          have hO1 := Aside0.mk (Rb_dec (Kd.R_alloc HO.out _) (blk_alloc HX.out _) hdec)
          have hB1 := Aside0.mk (HB.out.alloc hsw _ |>.trans (hdec.choose_spec.2.2.1 (Nat.le_of_lt hBW) (by simp; omega)))
          have hdec' := Aside0.mk hdec
          have hb' := Aside0.mk hb_
          clear hdec hb_
          have z1 : w.heap.size ≤ w1.heap.size := hB1.out.size
          go_wp2_with (at_builtin; refine Kd.R_append Kd.bool (w0 := w) (W := w1) w.heap.size rfl (.tmp 33) (.tmp 37) 24 4 (.bool false) 1 rfl Try.underlying24 info4 rfl (by decide) (by omega) (.slice A5 outs.length c5) outs b [.bool b] (fun _ => True) (fun _ => False) rfl rfl ?aP (fun _ hk => hk.elim) ?aF ?aO ?aB ?aS ?aL ?_; (case aP => exact rfl); (case aB => exact hB1.out); (case aF => exact (fun _ _ => trivial)); (case aO => exact hO1.out); (case aS => exact z1); (case aL => (have h1_ := HF.out.2.2.2.1; have h2_ := hl.out; have h3_ := hjn.out; omega)); intro v1 w2 ho2 hb2 hg2 hat2; have ho2' := Aside0.mk ho2; have hb2' := Aside0.mk hb2; have hg2' := Aside0.mk hg2; clear ho2 hb2 hg2 hat2)
          go_roundg (gk - 1)
          case measure => have h_ := HF.out; have h2_ := hjn.out; omega
          case rel => exact run_rel hdec'.out hg2'.out (Kd.R_typed hO1.out) (blk_alloc HS.out _) (blk_alloc HT.out _) hSB hTB ho2'.out hb2'.out HF.out hjn.out hwj'.out ⟨p1, p2, p3, p4⟩ hb'.out
        · have hjb : decide (j < l2.length) = false := decide_eq_false hj
          have hjn := Aside0.mk hj
          clear hj
          have e1 := HF.out.2.2.2.2
          rw [List.drop_of_length_le (by have h_ := hjn.out; omega)] at e1
          obtain ⟨A5, c5, hv5⟩ := Kd.R_slice HO.out
          subst hv5
          have hfin := Aside0.mk (show RunP w r1 0 (.returned (.tuple #[.slice A5 outs.length c5, .int .i64 0])) wk from ⟨_, rfl, by rw [hres.out, ← e1]; simpa [runV] using HO.out, HB.out⟩)
          clear e1
          go_wp2
          go_ret2
          exact hfin.out
    · have hlm := Aside0.mk (show LM a0 a1 = false by simpa using lm)
      clear lm
      have hr : r1 = [] ∧ r2 = 1 := by
        have := hh.out
        rw [hv.out, hlm.out] at this
        simp only [Bool.and_false, Bool.false_eq_true, if_false, Prod.mk.injEq] at this
        exact ⟨this.1.symm, this.2.symm⟩
      obtain ⟨rfl, rfl⟩ := hr
      clear hh
      go_enter Try.func10, Try.ntmps10
      go_wp2_with fail
      refine (preempt_valid.calls K _ _ l2 true _ (Kd.C_below HR.out (by repeat (with_reducible first | exact Below.refl _ _ | (refine below_set ?_ (by first | omega | exact Nat.le_refl _)) | apply below_alloc | apply pw_below_drewN | apply below_drew1))) HC.out (hV.out.trans (congrArg some hv.out))).mono ?_
      rintro e wa ⟨rfl, hba⟩
      obtain ⟨hca, hfa⟩ := bcell hba
      have zT0 : w.heap.size < wa.heap.size := by have := hba.size; (try simp at this); omega
      go_wp2_with fail
      refine (preempt_limits.calls a0 a1 false _ (hL.out.trans (congrArg some hlm.out))).mono ?_
      rintro e wb ⟨rfl, hbb_⟩
      have HBB := Aside0.mk (show Below w.heap.size w wb from below_step (by repeat (with_reducible first | exact Below.refl _ _ | (refine below_set ?_ (by first | omega | exact Nat.le_refl _)) | apply below_alloc | apply pw_below_drewN | apply below_drew1 | refine below_step ?_ hba)) hbb_.below)
      clear hba hbb_
      go_wp2
      go_ret2
      exact ⟨_, rfl, Kd.R_nil _ _ _ _ _, HBB.out⟩
  · have hv := Aside0.mk (show VL l2 = false by simpa using v)
    clear v
    have hr : r1 = [] ∧ r2 = 1 := by
      have := hh.out
      rw [hv.out] at this
      simp only [Bool.false_and, Bool.false_eq_true, if_false, Prod.mk.injEq] at this
      exact ⟨this.1.symm, this.2.symm⟩
    obtain ⟨rfl, rfl⟩ := hr
    clear hh
    go_enter Try.func10, Try.ntmps10
    go_wp2_with fail
    refine (preempt_valid.calls K _ _ l2 false _ (Kd.C_below HR.out (by repeat (with_reducible first | exact Below.refl _ _ | (refine below_set ?_ (by first | omega | exact Nat.le_refl _)) | apply below_alloc | apply pw_below_drewN | apply below_drew1))) HC.out (hV.out.trans (congrArg some hv.out))).mono ?_
    rintro e wa ⟨rfl, hba⟩
    have HBB := Aside0.mk (show Below w.heap.size w wa from below_step (by repeat (with_reducible first | exact Below.refl _ _ | (refine below_set ?_ (by first | omega | exact Nat.le_refl _)) | apply below_alloc | apply pw_below_drewN | apply below_drew1)) hba)
    clear hba
    go_wp2
    go_ret2
    exact ⟨_, rfl, Kd.R_nil _ _ _ _ _, HBB.out⟩
theorem preempt_Run.calls (k : Nat) (a0 : Int) (a1 : Int) (A2 : Option Addr) (c2 : Nat) (l2 : List (S37)) (r1 : List Bool) (r2 : Int) (w : World) (hr2 : Kd.C k37 w A2 l2.length l2) (hc2 : l2.length ≤ c2) (h : preempt_Run.f k a0 a1 l2 = some (r1, r2)) :
    Calls Try.prog 10 #[.int .i64 a0, .int .i64 a1, .slice A2 l2.length c2] w fun e w' => ∃ v0_ : Value, e = .returned (.tuple #[v0_, .int .i64 r2]) ∧ Kd.R Kd.bool 4 w' w.heap.size (fun _ => True) v0_ r1 ∧ Below w.heap.size w w' := run_calls k a0 a1 A2 c2 l2 r1 r2 w hr2 hc2 h
end Go.Proofs.Ytmndechaeaidcaa.Px
