/- A window's state: 'at', walked. -/
import Derived.Test.YtmndechaeaidcaaExtB
namespace Go.Proofs.Ytmndechaeaidcaa.Px
open Go.RowKit Go.Proofs.YtmndechaeaidcaaW.PrintWords Go.Proofs.YtmndechaeaidcaaW.PrintLast Go.Proofs.YtmndechaeaidcaaW.PrintMore
attribute [local go_sem] max2_int min2_int max_two min_two max_three min_three max_four min_four World.size_setCell
attribute [local go_sem ↓] Go.wp_at_zero Go.wp_at_succ
set_option linter.unusedVariables false
set_option linter.unusedSimpArgs false

/-- What is later than t. -/
def keep (t : Int) : List S37 → List S37
  | [] => []
  | x :: l => if x.f0 ≤ t then keep t l else x :: l
def sumC : List S37 → Int
  | [] => 0
  | x :: l => x.f1 + sumC l
def Ok (l : List S37) : Prop := ∀ x ∈ l, 0 ≤ x.f0 ∧ x.f0 ≤ 38399 ∧ 0 ≤ x.f1 ∧ x.f1 ≤ 1000
theorem Ok.tail {x : S37} {l : List S37} (h : Ok (x :: l)) : Ok l := fun y hy => h y (by simp [hy])
theorem sumC_bd : ∀ {l : List S37}, Ok l → 0 ≤ sumC l ∧ sumC l ≤ 1000 * l.length
  | [], _ => by simp [sumC]
  | x :: l, h => by
    have h1 := h x (by simp)
    have h2 := sumC_bd (l := l) h.tail
    simp only [sumC, List.length_cons]
    omega
/-- Behind 'at'. -/
def AtP (w : World) (base B : Nat) (win : Int) (l' : List S37) (w' : World) : Prop :=
  ∃ v', w'.heap[B]? = some (.cells #[v', .int .i64 win, .int .i64 (sumC l')] 46 (0, 0)) ∧ RowT w' base v' l' ∧ w.grownBy w' (some B)
theorem grown_set {w w' : World} {B j : Nat} {u : Value} (h : w.grownBy w' (some B)) : w.grownBy (w'.setCell ⟨B, j, none⟩ u) (some B) := by
  have hb : Below 0 w (w'.setCell ⟨B, j, none⟩ u) := Below.setCell (⟨h.os, h.tape, h.output, h.size, fun k hk => absurd hk (Nat.not_lt_zero k)⟩ : Below 0 w w') (Nat.zero_le _) u
  exact ⟨hb.os, hb.tape, hb.output, hb.size, fun k hk hn => (Below.heap_setCell w' ⟨B, j, none⟩ u k (fun e => hn (congrArg some e))).trans (h.block k hk hn)⟩
theorem grown_drew {w w' : World} {row : Option Nat} (h : w.grownBy w' row) (n : Nat) : w.grownBy (w'.drewN n) row := ⟨h.os, h.tape, h.output, h.size, h.block⟩
theorem AtP.drew {w w' : World} {base B : Nat} {win : Int} {l' : List S37} (h : AtP w base B win l' w') (n : Nat) : AtP w base B win l' (w'.drewN n) := by
  obtain ⟨v', h1, h2, h3⟩ := h
  exact ⟨v', h1, h2.move (fun _ _ => rfl), grown_drew h3 n⟩
theorem round_end {w wr : World} {base B g o cap : Nat} {win c c' : Int} {x : S37} {l : List S37} {A : Option Addr} (hB : wr.heap[B]? = some (.cells #[.slice (some ⟨g, o, none⟩) (l.length + 1) cap, .int .i64 win, .int .i64 c] 46 (0, 0))) (hR : RowT wr base (.slice (some ⟨g, o, none⟩) (l.length + 1) cap) (x :: l)) (hG : w.grownBy wr (some B)) (k : Nat)
    (hc : c' = sumC l) (hA : A = if l.length = 0 then some ⟨g, o, none⟩ else some ⟨g, o + 2, none⟩) :
    AtP w base B win l (((wr.drewN k).setCell ⟨B, 2, none⟩ (.int .i64 c')).setCell ⟨B, 0, none⟩ (.slice A l.length l.length)).drew := by
  have hn := hR.ne hB (by decide)
  have hT := hR.tail
  rw [show (some (⟨g, o, none⟩ : Addr)).map (·.add 2) = some ⟨g, o + 2, none⟩ from by rw [Option.map_some, add_at], ← hA] at hT
  have hn2 := hT.ne hB (by decide)
  subst hc
  refine ⟨_, blk_drew (blk_put (blk_put (blk_drewN hB k) 2 _ rfl) 0 _ rfl), hT.move (fun j hj => ?_), ?_⟩
  · have hj' : j ≠ B := fun e => hn2 (by rw [hj, e])
    exact (Below.heap_setCell _ ⟨B, 0, none⟩ _ j hj').trans (Below.heap_setCell _ ⟨B, 2, none⟩ _ j hj')
  · have h1 := grown_set (j := 0) (u := .slice A l.length l.length) (grown_set (j := 2) (u := .int .i64 (sumC l)) (grown_drew hG k))
    exact ⟨h1.os, h1.tape, h1.output, h1.size, h1.block⟩
set_option maxHeartbeats 2000000 in
theorem at_calls (w : World) (base B : Nat) (win m : Int) (v : Value) (l : List S37) (hB_ : w.heap[B]? = some (.cells #[v, .int .i64 win, .int .i64 (sumC l)] 46 (0, 0))) (hR_ : RowT w base v l) (hl_ : l.length ≤ 1000) (ho_ : Ok l) (h1 : 0 ≤ m) (h2 : m ≤ 38399) (h3 : 1 ≤ win) (h4 : win ≤ 38400) :
    Calls Try.prog 21 #[.pointer (some ⟨B, 0, none⟩), .int .i64 m] w fun e w' => e = .returned (.int .i64 (sumC (keep (m - win) l))) ∧ AtP w base B win (keep (m - win) l) w' := by
  have HQ : AtP w base B win l w := ⟨v, hB_, hR_, World.grownBy.refl _ _⟩
  have hl := Aside0.mk hl_
  have ho := Aside0.mk ho_
  clear hB_ hR_ hl_ ho_
  have hu46 := Try.underlying46
  have hu37 := Try.underlying37
  have hu51 := Try.underlying51
  have HQ' := Aside0.mk HQ
  clear HQ
  go_enter Try.func21, Try.ntmps21
  go_wp2_with fail
  go_loopg [] l.length (fun kq w' => ∃ l' : List S37, Aside0 (AtP w base B win l' w') ∧ Aside0 (keep (m - win) l' = keep (m - win) l ∧ Ok l' ∧ l'.length = kq ∧ kq ≤ l.length))
  case atStart => exact ⟨l, HQ', ⟨rfl, ho.out, rfl, Nat.le_refl _⟩⟩
  case round =>
    clear HQ'
    obtain ⟨l', HA, HF⟩ := hrel
    obtain ⟨v', hB_, hR_, hg_⟩ := HA.out
    have hf := HF.out
    have zB : B < wr.heap.size := blk_lt hB_
    have fB0 : wr.frozen? ⟨B, 0, none⟩ = false := blk_frozen hB_ 0
    have fB2 : wr.frozen? ⟨B, 2, none⟩ = false := blk_frozen hB_ 2
    have b1 : wr.cell? ⟨B, 1, none⟩ = some (.int .i64 win) := (blk_cell hB_ 1).trans rfl
    cases l' with
    | nil =>
      obtain ⟨A, cap, rfl, _, _⟩ := hR_.form
      have b0 : wr.cell? ⟨B, 0, none⟩ = some (.slice A 0 cap) := (blk_cell hB_ 0).trans rfl
      have b2 : wr.cell? ⟨B, 2, none⟩ = some (.int .i64 0) := (blk_cell hB_ 2).trans rfl
      have e0 := hf.1
      have HE := Aside0.mk e0
      clear hB_ hR_ hg_ hf e0
      go_wp2_with fail
      go_quiet (fail)
      go_wp2
      go_ret
      exact ⟨by rw [← HE.out]; rfl, by rw [← HE.out]; exact AtP.drew HA.out _⟩
    | cons x l' =>
      cases l' with
      | nil =>
        obtain ⟨g, o, cap, rfl, hcap_, c0, c1⟩ := hR_.head
        have hcap := Aside0.mk hcap_
        have hcapI : (0 : Int) + 1 ≤ (cap : Int) := by have h_ := hcap_; (try simp at h_); omega
        have hn0 : (1 : Int) ≤ (0 : Int) + 1 := by omega
        clear hcap_
        have b0 : wr.cell? ⟨B, 0, none⟩ = some (.slice (some ⟨g, o, none⟩) (0 + 1) cap) := (blk_cell hB_ 0).trans rfl
        have b2 : wr.cell? ⟨B, 2, none⟩ = some (.int .i64 (x.f1 + sumC ([] : List S37))) := (blk_cell hB_ 2).trans rfl
        have hox := hf.2.1 x (by simp)
        have hsb := sumC_bd hf.2.1.tail
        have hlen : (([] : List S37)).length ≤ 1000 := by have h1_ := hl.out; have h2_ := hf.2.2.1; have h3_ := hf.2.2.2; simp only [List.length_cons, List.length_nil] at h2_ ⊢; omega
        have hsb2 : sumC ([] : List S37) ≤ 1000000 := by omega
        have hk1 := Aside0.mk hf.1
        have hk2 := Aside0.mk (hf.2.1.tail)
        have hk3 := Aside0.mk hf.2.2
        have hBB := Aside0.mk hB_
        have hRR := Aside0.mk hR_
        have hGG := Aside0.mk hg_
        have hne := hR_.ne hB_ (by decide)
        have hgB : g ≠ B := fun e => hne (by rw [e]; rfl)
        obtain ⟨p1, p2, p3, p4⟩ := hox
        obtain ⟨q1, _⟩ := hsb
        clear hB_ hR_ hg_ hf hne hlen
        generalize hs_ : sumC ([] : List S37) = s at *
        have hs := Aside0.mk hs_
        clear hs_
        by_cases hx : x.f0 ≤ m - win
        · have hxb : decide (x.f0 ≤ m - win) = true := decide_eq_true hx
          have hxx := Aside0.mk hx
          clear hx
          go_wp2_with fail
          go_quiet (fail)
          go_wp2_with fail
          go_region
          go_wp2_with fail
          go_region
          go_wp2_with fail
          go_roundg (([] : List S37)).length
          case measure =>
            have h_ := hk3.out.1
            simp only [List.length_cons] at h_ ⊢
            omega
          case rel =>
            have e1 : keep (m - win) ([] : List S37) = keep (m - win) l := by rw [← hk1.out]; exact (if_pos hxx.out).symm
            refine ⟨([] : List S37), ⟨?_⟩, ⟨e1, hk2.out, rfl, ?_⟩⟩
            · exact round_end hBB.out hRR.out hGG.out _ (by have h_ := hs.out; omega) (if_pos rfl).symm
            · have h_ := hk3.out
              simp only [List.length_cons] at h_ ⊢
              omega
        · have hxb : decide (x.f0 ≤ m - win) = false := decide_eq_false hx
          have hxx := Aside0.mk hx
          clear hx
          go_wp2_with fail
          go_quiet (fail)
          go_wp2
          go_ret
          have e1 : keep (m - win) l = x :: ([] : List S37) := by rw [← hk1.out]; exact if_neg (by have h_ := hxx.out; omega)
          exact ⟨by rw [e1, ← hs.out]; rfl, by rw [e1]; exact AtP.drew HA.out _⟩
      | cons y l' =>
        obtain ⟨g, o, cap, rfl, hcap_, c0, c1⟩ := hR_.head
        obtain ⟨n, hn_⟩ : ∃ n, n = (y :: l').length := ⟨_, rfl⟩
        rw [← hn_] at hcap_ hB_ hR_
        have hnz : ¬ n = 0 := by rw [hn_]; simp
        have hnn := Aside0.mk hn_
        clear hn_
        have hcap := Aside0.mk hcap_
        have hcapI : (n : Int) + 1 ≤ (cap : Int) := by have h_ := hcap_; (try simp at h_); omega
        have hn0 : (1 : Int) ≤ (n : Int) + 1 := by omega
        clear hcap_
        have b0 : wr.cell? ⟨B, 0, none⟩ = some (.slice (some ⟨g, o, none⟩) (n + 1) cap) := (blk_cell hB_ 0).trans rfl
        have b2 : wr.cell? ⟨B, 2, none⟩ = some (.int .i64 (x.f1 + sumC (y :: l'))) := (blk_cell hB_ 2).trans rfl
        have hox := hf.2.1 x (by simp)
        have hsb := sumC_bd hf.2.1.tail
        have hlen : ((y :: l')).length ≤ 1000 := by have h1_ := hl.out; have h2_ := hf.2.2.1; have h3_ := hf.2.2.2; simp only [List.length_cons, List.length_nil] at h2_ ⊢; omega
        have hsb2 : sumC (y :: l') ≤ 1000000 := by omega
        have hk1 := Aside0.mk hf.1
        have hk2 := Aside0.mk (hf.2.1.tail)
        have hk3 := Aside0.mk hf.2.2
        have hBB := Aside0.mk hB_
        have hRR := Aside0.mk hR_
        have hGG := Aside0.mk hg_
        have hne := hR_.ne hB_ (by decide)
        have hgB : g ≠ B := fun e => hne (by rw [e]; rfl)
        obtain ⟨p1, p2, p3, p4⟩ := hox
        obtain ⟨q1, _⟩ := hsb
        clear hB_ hR_ hg_ hf hne hlen
        generalize hs_ : sumC (y :: l') = s at *
        have hs := Aside0.mk hs_
        clear hs_
        by_cases hx : x.f0 ≤ m - win
        · have hxb : decide (x.f0 ≤ m - win) = true := decide_eq_true hx
          have hxx := Aside0.mk hx
          clear hx
          go_wp2_with fail
          go_quiet (fail)
          go_wp2_with fail
          go_region
          go_wp2_with fail
          go_region
          go_wp2_with fail
          go_roundg ((y :: l')).length
          case measure =>
            have h_ := hk3.out.1
            simp only [List.length_cons] at h_ ⊢
            omega
          case rel =>
            have e1 : keep (m - win) (y :: l') = keep (m - win) l := by rw [← hk1.out]; exact (if_pos hxx.out).symm
            refine ⟨(y :: l'), ⟨?_⟩, ⟨e1, hk2.out, rfl, ?_⟩⟩
            · have e2 := hnn.out; subst e2; exact round_end hBB.out hRR.out hGG.out _ (by have h_ := hs.out; omega) (if_neg (by simp)).symm
            · have h_ := hk3.out
              simp only [List.length_cons] at h_ ⊢
              omega
        · have hxb : decide (x.f0 ≤ m - win) = false := decide_eq_false hx
          have hxx := Aside0.mk hx
          clear hx
          go_wp2_with fail
          go_quiet (fail)
          go_wp2
          go_ret
          have e1 : keep (m - win) l = x :: (y :: l') := by rw [← hk1.out]; exact if_neg (by have h_ := hxx.out; omega)
          exact ⟨by rw [e1, ← hs.out]; rfl, by rw [e1]; exact AtP.drew HA.out _⟩
end Go.Proofs.Ytmndechaeaidcaa.Px
