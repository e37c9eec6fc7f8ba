/- The plain law CadenceWider. -/
import Derived.Test.YtefaemikfihdeaaPlP
import Derived.Test.YtefaemikfihdeaaPxx15
import Derived.OpenShut
namespace Go.Proofs.Ytefaemikfihdeaa.Px
open Go.RowKit Go.Proofs.YtefaemikfihdeaaW.PrintWords Go.Proofs.YtefaemikfihdeaaW.PrintLast Go.Proofs.YtefaemikfihdeaaW.PrintMore
set_option linter.unusedVariables false
set_option linter.unusedSimpArgs false

/-- What differs between a sequence and a wider one. -/
theorem wider_rep (l l' : List S35) (a : Int) (hlen : l'.length = l.length) (v : VB l a = true) (v' : VB l' a = true) (hw : ∀ i : Int, 0 ≤ i → i < l.length → (rd_T35 l' i).f1 ≤ (rd_T35 l i).f1 ∧ (rd_T35 l i).f2 ≤ (rd_T35 l' i).f2) :
    ∀ (ms : List Int) (c0 c1 c2 : Int) (c3 : Bool) (i : Int), (repV l a ms c0 c1 c2 c3 i).2.2.2.2.2 = 0 → repV l' a ms c0 c1 c2 c3 i = repV l a ms c0 c1 c2 c3 i
  | [], c0, c1, c2, c3, i, _ => rfl
  | m :: ms, c0, c1, c2, c3, i, h => by
    simp only [repV] at h ⊢
    by_cases z : (advV l a c0 c1 c2 c3 m).2.2.2.2 = 0
    · rw [if_pos z] at h ⊢
      have r0 : rdyV l a c0 c1 c2 c3 m = 0 := by
        unfold advV at z
        by_cases r : rdyV l a c0 c1 c2 c3 m = 0
        · exact r
        · rw [if_neg r] at z
          exact z
      obtain ⟨rfl, hc, m0, m1⟩ := rdy_zero r0
      obtain ⟨_, i1, i2, i3, i4, i5, i6, i7⟩ := CB_false hc
      have o := VB_ok v i1 i2
      have q := hw c0 i1 i2
      have cb : CB l' a c0 c1 c2 false = CB l a c0 c1 c2 false := by unfold CB; rw [v, v']; congr 1; exact decide_eq_decide.mpr (by unfold CP; rw [hlen])
      have r0' : rdyV l' a c0 c1 c2 false m = 0 := by
        unfold rdyV at r0 ⊢
        rw [cb]
        rw [if_pos (show CB l a c0 c1 c2 false = true ∧ 0 ≤ m ∧ m ≤ 38399 from ⟨hc, m0, m1⟩), if_neg (by simp)] at r0 ⊢
        by_cases e0 : c0 + c1 = 0
        · rw [if_pos e0]
        · rw [if_neg e0] at r0 ⊢
          by_cases e1 : m < c2 + (rd_T35 l c0).f1
          · rw [if_pos e1] at r0; simp at r0
          · rw [if_neg e1] at r0
            by_cases e2 : c2 + (rd_T35 l c0).f2 < m
            · rw [if_pos e2] at r0; simp at r0
            · rw [if_neg (by omega), if_neg (by omega)]
      have ea : advV l' a c0 c1 c2 false m = advV l a c0 c1 c2 false m := by unfold advV; rw [r0, r0', hlen]
      rw [ea, if_pos z]
      exact wider_rep l l' a hlen v v' hw ms _ _ _ _ _ h
    · rw [if_neg z] at h
      exact absurd h z

theorem rd_set (l : List S35) (q : Int) (x : S35) (i : Int) (h0 : 0 ≤ q) (h1 : q < l.length) (hi : 0 ≤ i) : rd_T35 (l.set q.toNat x) i = if i = q then x else rd_T35 l i := by
  unfold rd_T35
  rw [List.getD_eq_getElem?_getD, List.getD_eq_getElem?_getD]
  by_cases e : i = q
  · subst e
    rw [if_pos rfl, List.getElem?_set_self (by omega)]
    rfl
  · rw [if_neg e, List.getElem?_set_ne (by omega)]
theorem VB_set {l : List S35} {a q : Int} {x : S35} (v : VB l a = true) (h0 : 0 ≤ q) (h1 : q < l.length) (hx : okS x = true) : VB (l.set q.toNat x) a = true := by
  unfold VB at v ⊢
  simp only [Bool.and_eq_true, decide_eq_true_eq, List.length_set] at v ⊢
  refine ⟨v.1, List.all_eq_true.mpr fun y hy => ?_⟩
  rcases List.mem_or_eq_of_mem_set hy with h | h
  · exact List.all_eq_true.mp v.2 y h
  · rw [h]; exact hx
theorem okS_at {l : List S35} {a i : Int} (v : VB l a = true) (h0 : 0 ≤ i) (h1 : i < l.length) : okS (rd_T35 l i) = true := by
  unfold VB at v
  simp only [Bool.and_eq_true] at v
  refine List.all_eq_true.mp v.2 (rd_T35 l i) ?_
  unfold rd_T35
  rw [List.getD_eq_getElem?_getD, List.getElem?_eq_getElem (by omega : i.toNat < l.length)]
  exact List.getElem_mem _
theorem replay_zero {l : List S35} {a : Int} {ms : List Int} (h : (replayV l a ms).2.2.2.2.2 = 0) : VB l a = true ∧ replayV l a ms = repV l a ms 0 0 0 false 0 := by
  unfold replayV at h ⊢
  by_cases v : VB l a = true
  · rw [if_pos v]; exact ⟨v, rfl⟩
  · rw [if_neg v] at h; simp at h
theorem rep_count (l : List S35) (a : Int) : ∀ (ms : List Int) (c0 c1 c2 : Int) (c3 : Bool) (i : Int), (repV l a ms c0 c1 c2 c3 i).2.2.2.2.2 = 0 → (repV l a ms c0 c1 c2 c3 i).2.2.2.2.1 = i + ms.length
  | [], c0, c1, c2, c3, i, _ => by simp [repV]
  | m :: ms, c0, c1, c2, c3, i, h => by
    simp only [repV] at h ⊢
    by_cases z : (advV l a c0 c1 c2 c3 m).2.2.2.2 = 0
    · rw [if_pos z] at h ⊢
      rw [rep_count l a ms _ _ _ _ _ h]
      simp
      omega
    · rw [if_neg z] at h
      exact absurd h z

theorem wider_pure (l : List S35) (a : Int) (ms : List Int) (x2 x3 x4 : Int) (hl : l.length * 24 ≤ 140737488351232) (hm : ms.length ≤ 140737488351232) (r0 : 0 ≤ x2) (r1 : x2 ≤ 255) (r2 : 0 ≤ x3) (r3 : x3 ≤ 65535) (r4 : 0 ≤ x4) (r5 : x4 ≤ 65535) :
    ∃ k, observatorylaw24_CadenceWider.f k l a ms x2 x3 x4 = some true := by
  obtain ⟨K1, h1⟩ := replay_ev l a ms (by omega) hm
  by_cases z : (replayV l a ms).2.2.2.2.2 = 0
  · obtain ⟨v, er⟩ := replay_zero z
    have b := VB_bd v
    rw [er] at z
    obtain ⟨q, hq⟩ : ∃ q, q = Int.tmod x2 (l.length : Int) := ⟨_, rfl⟩
    have q0 : 0 ≤ q := by rw [hq]; exact Int.tmod_nonneg _ r0
    have q1 : q < l.length := by rw [hq]; exact Int.tmod_lt_of_pos _ (by omega)
    have o := okS_at v q0 q1
    have o' := of_decide_eq_true o
    generalize hx : rd_T35 l q = x at o o'
    obtain ⟨x', hx'⟩ : ∃ x', x' = (⟨x.f0, mx 0 (x.f1 - x3), mn 38399 (x.f2 + x4)⟩ : S35) := ⟨_, rfl⟩
    have ox' : okS x' = true := by
      rw [hx']
      unfold okS mx mn
      simp only [decide_eq_true_eq]
      refine ⟨o'.1, o'.2.1, ?_⟩
      split <;> split <;> omega
    have v' := VB_set v q0 q1 ox'
    have hlen : (l.set q.toNat x').length = l.length := List.length_set
    have hw : ∀ i : Int, 0 ≤ i → i < l.length → (rd_T35 (l.set q.toNat x') i).f1 ≤ (rd_T35 l i).f1 ∧ (rd_T35 l i).f2 ≤ (rd_T35 (l.set q.toNat x') i).f2 := by
      intro i i0 i1
      rw [rd_set l q x' i q0 q1 i0]
      by_cases e : i = q
      · rw [if_pos e, e, hx, hx']
        unfold mx mn
        simp only
        constructor <;> split <;> omega
      · rw [if_neg e]; omega
    have same := wider_rep l _ a hlen v v' hw ms 0 0 0 false 0 z
    obtain ⟨K2, h2⟩ := replay_ev (l.set q.toNat x') a ms (by rw [hlen]; omega) hm
    obtain ⟨n, hn⟩ : ∃ n, n = K1 + K2 := ⟨_, rfl⟩
    refine ⟨n + 1, ?_⟩
    replace h1 := h1 n (by omega)
    replace h2 := h2 n (by omega)
    simp only at h1 h2
    rw [er] at h1
    have er' : replayV (l.set q.toNat x') a ms = repV l a ms 0 0 0 false 0 := by unfold replayV; rw [if_pos v', same]
    rw [er'] at h2
    have cnt := rep_count l a ms 0 0 0 false 0 z
    have e : ∀ b, observatorylaw24_CadenceWider.j0 (n + 1) ms x2 x3 x4 true b l a = some true := by
      intro b
      cases b
      · simp only [observatorylaw24_CadenceWider.j0, h1, Option.bind_some, if_neg (show ¬ (false = true) by simp), if_pos z, if_true, List.nil_append, List.length_nil, Nat.zero_add, List.length_set]
        rw [wr (x := x2) (by omega) (by omega), wr (x := x3) (by omega) (by omega), wr (x := x4) (by omega) (by omega), ← hq, if_neg (by omega), if_pos (by omega), if_pos q0, if_pos q1]
        rw [rd_set l q _ q q0 q1 q0, if_pos rfl, List.set_set, hx, wr (x := x.f1 - x3) (by omega) (by omega), wr (x := x.f2 + x4) (by omega) (by omega), ← hx', h2]
        simp only [Option.bind_some]
        have cnt' : (repV l a ms 0 0 0 false 0).2.2.2.2.1 = (ms.length : Int) := by omega
        simp [z, cnt', q1]
      · rfl
    simp only [observatorylaw24_CadenceWider.f, observatorylaw24_head.f, observatoryref24_Few.f, Option.bind_some]
    split <;> exact e _
  · refine ⟨K1 + 1, ?_⟩
    replace h1 := h1 K1 (by omega)
    simp only at h1
    have e : ∀ b, observatorylaw24_CadenceWider.j0 (K1 + 1) ms x2 x3 x4 true b l a = some true := by
      intro b
      cases b
      · simp only [observatorylaw24_CadenceWider.j0, h1, Option.bind_some, if_neg (show ¬ (false = true) by simp), if_neg z, if_true]
        exact congrArg some (bne_iff_ne.mpr z)
      · rfl
    simp only [observatorylaw24_CadenceWider.f, observatorylaw24_head.f, observatoryref24_Few.f, Option.bind_some]
    split <;> exact e _

theorem few_no {l : List S35} {a : Int} (h : ¬ l.length ≤ 50) : observatoryref24_Few.f l a = some false := by
  unfold observatoryref24_Few.f
  rw [decide_eq_false (by omega)]
theorem few_yes {l : List S35} {a : Int} (h : l.length ≤ 50) : observatoryref24_Few.f l a = some true := by
  unfold observatoryref24_Few.f
  rw [decide_eq_true (by omega)]
theorem CadenceWider_law (l : List S35) (a : Int) (ms : List Int) (x2 x3 x4 : Int) (r0 : 0 ≤ x2) (r1 : x2 ≤ 255) (r2 : 0 ≤ x3) (r3 : x3 ≤ 65535) (r4 : 0 ≤ x4) (r5 : x4 ≤ 65535) : ∃ k, observatorylaw24_CadenceWider.f k l a ms x2 x3 x4 = some true := by
  by_cases h : l.length ≤ 50
  · by_cases h2 : ms.length ≤ 200
    · exact wider_pure l a ms x2 x3 x4 (by omega) (by omega) r0 r1 r2 r3 r4 r5
    · refine ⟨1, ?_⟩
      have hd : decide ((ms.length : Int) > 200) = true := decide_eq_true (by omega)
      simp only [observatorylaw24_CadenceWider.f, observatorylaw24_head.f, few_yes h, Option.bind_some, hd, observatorylaw24_CadenceWider.j0, if_true]
  · refine ⟨1, ?_⟩
    simp only [observatorylaw24_CadenceWider.f, observatorylaw24_head.f, few_no h, Option.bind_some]
    rfl
end Go.Proofs.Ytefaemikfihdeaa.Px
