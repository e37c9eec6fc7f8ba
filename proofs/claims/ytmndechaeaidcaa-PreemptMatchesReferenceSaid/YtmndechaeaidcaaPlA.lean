/- Plain facts about windows: what a sorted list costs in a window, what the program's runs come to. -/
import Derived.Test.YtmndechaeaidcaaExtD
namespace Go.Proofs.Ytmndechaeaidcaa.Px
open Go.RowKit Go.Proofs.YtmndechaeaidcaaW.PrintWords Go.Proofs.YtmndechaeaidcaaW.PrintLast Go.Proofs.YtmndechaeaidcaaW.PrintMore
set_option linter.unusedVariables false
set_option linter.unusedSimpArgs false

def Srt (l : List S37) : Prop := l.Pairwise (fun x y => x.f0 ≤ y.f0)
theorem srt_pw : ∀ {l : List S37} {t : Int}, srt t l = true → Srt l ∧ ∀ x ∈ l, t ≤ x.f0
  | [], _, _ => ⟨List.Pairwise.nil, fun x hx => by cases hx⟩
  | y :: l, t, h => by
    simp only [srt, Bool.and_eq_true] at h
    obtain ⟨h1, h2⟩ := srt_pw h.2
    have ho := of_decide_eq_true h.1
    refine ⟨List.pairwise_cons.mpr ⟨fun x hx => h2 x hx, h1⟩, fun x hx => ?_⟩
    rcases List.mem_cons.mp hx with rfl | hx
    · omega
    · have := h2 x hx; omega
theorem pw_srt : ∀ {l : List S37} {t : Int}, Srt l → Ok l → (∀ x ∈ l, t ≤ x.f0) → srt t l = true
  | [], _, _, _, _ => rfl
  | y :: l, t, h, ho, ht => by
    have hp := List.pairwise_cons.mp h
    have h1 := ho y (by simp)
    have h2 := ht y (by simp)
    simp only [srt, Bool.and_eq_true]
    exact ⟨decide_eq_true ⟨h1.1, h1.2.1, h1.2.2.1, h1.2.2.2, h2⟩, pw_srt hp.2 ho.tail (fun x hx => hp.1 x hx)⟩
theorem VL_iff {l : List S37} : VL l = true ↔ Srt l ∧ Ok l ∧ l.length ≤ 200 := by
  unfold VL
  simp only [Bool.and_eq_true, decide_eq_true_eq]
  constructor
  · intro h
    exact ⟨(srt_pw h.1).1, srt_ok h.1, h.2⟩
  · intro h
    exact ⟨pw_srt h.1 h.2.1 (fun x hx => (h.2.1 x hx).1), h.2.2⟩
/-- What a window that ends at m costs. -/
def cw (win m : Int) : List S37 → Int
  | [] => 0
  | x :: l => (if m - win < x.f0 ∧ x.f0 ≤ m then x.f1 else 0) + cw win m l
theorem cw_append (win m : Int) : ∀ a b : List S37, cw win m (a ++ b) = cw win m a + cw win m b
  | [], b => by simp [cw]
  | x :: a, b => by
    simp only [List.cons_append, cw, cw_append win m a b]
    omega
theorem cw_nonneg {win m : Int} : ∀ {l : List S37}, Ok l → 0 ≤ cw win m l ∧ cw win m l ≤ sumC l
  | [], _ => by simp [cw, sumC]
  | x :: l, h => by
    have h1 := h x (by simp)
    have h2 := cw_nonneg (win := win) (m := m) (l := l) h.tail
    simp only [cw, sumC]
    split <;> omega
theorem Ok.left {a b : List S37} (h : Ok (a ++ b)) : Ok a := fun x hx => h x (by simp [hx])
theorem Ok.right {a b : List S37} (h : Ok (a ++ b)) : Ok b := fun x hx => h x (by simp [hx])
theorem Ok.append {a b : List S37} (h : Ok a) (k : Ok b) : Ok (a ++ b) := fun x hx => (List.mem_append.mp hx).elim (h x) (k x)
theorem Srt.left {a b : List S37} (h : Srt (a ++ b)) : Srt a := (List.pairwise_append.mp h).1
theorem Srt.right {a b : List S37} (h : Srt (a ++ b)) : Srt b := (List.pairwise_append.mp h).2.1
theorem Srt.cross {a b : List S37} (h : Srt (a ++ b)) : ∀ x ∈ a, ∀ y ∈ b, x.f0 ≤ y.f0 := (List.pairwise_append.mp h).2.2
/-- None of a later list's elements lies in the window. -/
theorem cw_later {win m : Int} : ∀ {l : List S37}, (∀ x ∈ l, m < x.f0) → cw win m l = 0
  | [], _ => rfl
  | x :: l, h => by
    have h1 := h x (by simp)
    have h2 := cw_later (win := win) (m := m) (l := l) (fun y hy => h y (by simp [hy]))
    simp only [cw, h2]
    rw [if_neg (by omega)]
    rfl
theorem cw_old {win m : Int} : ∀ {l : List S37}, (∀ x ∈ l, x.f0 ≤ m - win) → cw win m l = 0
  | [], _ => rfl
  | x :: l, h => by
    have h1 := h x (by simp)
    have h2 := cw_old (win := win) (m := m) (l := l) (fun y hy => h y (by simp [hy]))
    simp only [cw, h2]
    rw [if_neg (by omega)]
    rfl
theorem cw_all {win m : Int} : ∀ {l : List S37}, (∀ x ∈ l, m - win < x.f0 ∧ x.f0 ≤ m) → cw win m l = sumC l
  | [], _ => rfl
  | x :: l, h => by
    have h1 := h x (by simp)
    have h2 := cw_all (win := win) (m := m) (l := l) (fun y hy => h y (by simp [hy]))
    simp only [cw, h2, sumC]
    rw [if_pos h1]
/-- What is kept costs what the window costs. -/
theorem keep_cw {win m : Int} : ∀ {l : List S37}, Srt l → (∀ x ∈ l, x.f0 ≤ m) → sumC (keep (m - win) l) = cw win m l
  | [], _, _ => rfl
  | x :: l, h, hm => by
    have hp := List.pairwise_cons.mp h
    unfold keep
    by_cases c : x.f0 ≤ m - win
    · rw [if_pos c, keep_cw hp.2 (fun y hy => hm y (by simp [hy]))]
      simp only [cw]
      rw [if_neg (by omega)]
      omega
    · rw [if_neg c]
      refine (cw_all (fun y hy => ⟨?_, hm y hy⟩)).symm
      rcases List.mem_cons.mp hy with rfl | hy
      · omega
      · have := hp.1 y hy; omega
theorem keep_keep {t T : Int} (h : T ≤ t) : ∀ l : List S37, keep t (keep T l) = keep t l
  | [] => rfl
  | x :: l => by
    by_cases c : x.f0 ≤ T
    · rw [show keep T (x :: l) = keep T l from if_pos c, show keep t (x :: l) = keep t l from if_pos (by omega)]
      exact keep_keep h l
    · rw [show keep T (x :: l) = x :: l from if_neg c]
theorem keep_snoc {T : Int} {x : S37} (h : T < x.f0) : ∀ l : List S37, keep T (l ++ [x]) = keep T l ++ [x]
  | [] => if_neg (by omega)
  | y :: l => by
    by_cases c : y.f0 ≤ T
    · rw [List.cons_append, show keep T (y :: (l ++ [x])) = keep T (l ++ [x]) from if_pos c, show keep T (y :: l) = keep T l from if_pos c]
      exact keep_snoc h l
    · rw [List.cons_append, show keep T (y :: (l ++ [x])) = y :: (l ++ [x]) from if_neg c, show keep T (y :: l) = y :: l from if_neg c]
      rfl
theorem keep_none {t : Int} : ∀ {l : List S37}, (∀ x ∈ l, x.f0 ≤ t) → keep t l = []
  | [], _ => rfl
  | x :: l, h => by
    rw [show keep t (x :: l) = keep t l from if_pos (h x (by simp))]
    exact keep_none (fun y hy => h y (by simp [hy]))
/-- Run, told by the whole list of what was taken. -/
def runR (win budget : Int) : List S37 → List S37 → List Bool
  | _, [] => []
  | tk, x :: l => if cw win x.f0 tk + x.f1 > budget then false :: runR win budget tk l else true :: runR win budget (tk ++ [x]) l
theorem run_eq {win budget : Int} (hw : 0 < win) : ∀ (l tk : List S37) (T : Int), Srt (tk ++ l) → (∀ x ∈ l, T ≤ x.f0 - win) → runV win budget (keep T tk) l = runR win budget tk l
  | [], _, _, _, _ => rfl
  | x :: l, tk, T, h, ht => by
    have hc := h.cross
    have hx := ht x (by simp)
    have e1 : keep (x.f0 - win) (keep T tk) = keep (x.f0 - win) tk := keep_keep hx tk
    have e2 : sumC (keep (x.f0 - win) tk) = cw win x.f0 tk := keep_cw h.left (fun y hy => hc y hy x (by simp))
    have hr := List.pairwise_cons.mp h.right
    have ht' : ∀ y ∈ l, x.f0 - win ≤ y.f0 - win := fun y hy => by have := hr.1 y hy; omega
    unfold runV runR
    rw [e1, e2]
    by_cases c : cw win x.f0 tk + x.f1 > budget
    · rw [if_pos c, if_pos c]
      congr 1
      refine run_eq hw l tk (x.f0 - win) ?_ ht'
      exact List.pairwise_append.mpr ⟨h.left, hr.2, fun y hy z hz => hc y hy z (by simp [hz])⟩
    · rw [if_neg c, if_neg c]
      congr 1
      rw [← keep_snoc (show x.f0 - win < x.f0 by omega)]
      refine run_eq hw l (tk ++ [x]) (x.f0 - win) ?_ ht'
      rw [List.append_assoc]
      exact h
theorem run_eq0 {win budget : Int} (hw : 0 < win) {l : List S37} (h : Srt l) (ho : Ok l) : runV win budget [] l = runR win budget [] l :=
  run_eq hw l [] (-win) h (fun x hx => by have := ho x hx; omega)
theorem runR_len (win budget : Int) : ∀ (l tk : List S37), (runR win budget tk l).length = l.length
  | [], _ => rfl
  | x :: l, tk => by
    unfold runR
    split <;> simp [runR_len win budget l]
theorem runV_len (win budget : Int) : ∀ (l tk : List S37), (runV win budget tk l).length = l.length
  | [], _ => rfl
  | x :: l, tk => by
    unfold runV
    split <;> simp [runV_len win budget l]
/-- The greatest cost of the windows that end at an element, each by what came up to then. -/
def pm (win : Int) : List S37 → List S37 → Int
  | _, [] => 0
  | p, x :: l => mx (cw win x.f0 (p ++ [x])) (pm win (p ++ [x]) l)
/-- The same by the whole list. -/
def wm (win : Int) (L : List S37) : List S37 → Int
  | [] => 0
  | x :: l => mx (cw win x.f0 L) (wm win L l)
theorem mx_le {a b c : Int} : mx a b ≤ c ↔ a ≤ c ∧ b ≤ c := by unfold mx; split <;> omega
theorem le_mx {a b c : Int} : c ≤ mx a b ↔ c ≤ a ∨ c ≤ b := by unfold mx; split <;> omega
theorem mx_assoc (a b c : Int) : mx (mx a b) c = mx a (mx b c) := by unfold mx; (repeat' split) <;> omega
theorem pm_nonneg {win : Int} : ∀ {l p : List S37}, Ok (p ++ l) → 0 ≤ pm win p l
  | [], _, _ => Int.le_refl _
  | x :: l, p, h => by
    unfold pm
    have h1 : Ok (p ++ [x]) := by
      intro y hy
      exact h y (by rcases List.mem_append.mp hy with hy | hy <;> simp_all)
    exact le_mx.mpr (.inl (cw_nonneg h1).1)
theorem worst_eq {win : Int} (hw : 0 < win) : ∀ (l p : List S37) (T w : Int), Srt (p ++ l) → Ok (p ++ l) → (∀ x ∈ l, T ≤ x.f0 - win) → 0 ≤ w → worstV win (keep T p) w l = mx w (pm win p l)
  | [], p, T, w, _, _, _, h0 => by
    simp only [worstV, pm]
    unfold mx
    split <;> omega
  | x :: l, p, T, w, h, ho, ht, h0 => by
    have hx := ht x (by simp)
    have hc := h.cross
    have hr := List.pairwise_cons.mp h.right
    have hS : Srt ((p ++ [x]) ++ l) := by rw [List.append_assoc]; exact h
    have hO : Ok ((p ++ [x]) ++ l) := by rw [List.append_assoc]; exact ho
    have e1 : keep (x.f0 - win) (keep T p ++ [x]) = keep (x.f0 - win) (p ++ [x]) := by
      rw [← keep_snoc (show T < x.f0 by omega), keep_keep hx]
    have e2 : sumC (keep (x.f0 - win) (p ++ [x])) = cw win x.f0 (p ++ [x]) := keep_cw hS.left (fun y hy => by
      rcases List.mem_append.mp hy with hy | hy
      · exact hc y hy x (by simp)
      · obtain rfl : y = x := by simpa using hy
        exact Int.le_refl _)
    unfold worstV pm
    rw [e1, e2, worst_eq hw l (p ++ [x]) (x.f0 - win) _ hS hO (fun y hy => by have := hr.1 y hy; omega) (le_mx.mpr (.inl h0)), mx_assoc]
theorem cw_prefix {win m : Int} {a b : List S37} (h : Ok (a ++ b)) : cw win m a ≤ cw win m (a ++ b) := by
  rw [cw_append]
  have := (cw_nonneg (win := win) (m := m) h.right).1
  omega
theorem pm_le {win : Int} : ∀ (l p : List S37), Ok (p ++ l) → pm win p l ≤ wm win (p ++ l) l
  | [], _, _ => Int.le_refl _
  | x :: l, p, h => by
    have e : p ++ x :: l = (p ++ [x]) ++ l := by simp
    have hO : Ok ((p ++ [x]) ++ l) := by rw [← e]; exact h
    have ih := pm_le (win := win) l (p ++ [x]) hO
    unfold pm wm
    refine mx_le.mpr ⟨le_mx.mpr (.inl ?_), le_mx.mpr (.inr ?_)⟩
    · rw [e]
      exact cw_prefix hO
    · rw [e]
      exact ih
theorem wm_le {win : Int} : ∀ (l p : List S37), Srt (p ++ l) → Ok (p ++ l) → wm win (p ++ l) l ≤ pm win p l
  | [], _, _, _ => Int.le_refl _
  | x :: l, p, h, ho => by
    have e : p ++ x :: l = (p ++ [x]) ++ l := by simp
    have hO : Ok ((p ++ [x]) ++ l) := by rw [← e]; exact ho
    have hS : Srt ((p ++ [x]) ++ l) := by rw [← e]; exact h
    have ih := wm_le (win := win) l (p ++ [x]) hS hO
    unfold pm wm
    refine mx_le.mpr ⟨le_mx.mpr ?_, le_mx.mpr (.inr (by rw [e]; exact ih))⟩
    rw [e]
    cases l with
    | nil => left; simp
    | cons y l =>
      have hxy : x.f0 ≤ y.f0 := (List.pairwise_cons.mp h.right).1 y (by simp)
      by_cases c : y.f0 = x.f0
      · right
        refine Int.le_trans ?_ ih
        unfold wm
        rw [c]
        exact le_mx.mpr (.inl (Int.le_refl _))
      · left
        rw [cw_append]
        have hz : cw win x.f0 (y :: l) = 0 := cw_later (fun z hz => by
          rcases List.mem_cons.mp hz with rfl | hz
          · omega
          · have := (List.pairwise_cons.mp (List.pairwise_cons.mp h.right).2).1 z hz
            omega)
        omega
theorem worst_wm {win : Int} (hw : 0 < win) {l : List S37} (h : Srt l) (ho : Ok l) : worstV win [] 0 l = wm win l l := by
  have e1 := worst_eq hw l [] (-win) 0 h ho (fun x hx => by have := ho x hx; omega) (Int.le_refl _)
  have e2 := pm_le (win := win) l [] ho
  have e3 := wm_le (win := win) l [] h ho
  have e4 := pm_nonneg (win := win) (l := l) (p := []) ho
  have e0 : worstV win [] 0 l = mx 0 (pm win [] l) := e1
  simp only [List.nil_append] at e2 e3 e4
  rw [e0]
  unfold mx
  split <;> omega
theorem wm_le_iff {win : Int} {L : List S37} {c : Int} (h0 : 0 ≤ c) : ∀ {l : List S37}, wm win L l ≤ c ↔ ∀ x ∈ l, cw win x.f0 L ≤ c
  | [] => by simp [wm, h0]
  | x :: l => by
    unfold wm
    rw [mx_le, wm_le_iff h0 (l := l)]
    simp
theorem wm_nonneg {win : Int} {L : List S37} (h : Ok L) : ∀ {l : List S37}, 0 ≤ wm win L l
  | [] => Int.le_refl _
  | x :: l => le_mx.mpr (.inl (cw_nonneg h).1)
theorem wm_mem {win : Int} {L : List S37} (h : Ok L) : ∀ {l : List S37}, l ≠ [] → ∃ x ∈ l, wm win L l = cw win x.f0 L
  | [x], _ => by
    refine ⟨x, by simp, ?_⟩
    have := (cw_nonneg (win := win) (m := x.f0) h).1
    simp only [wm]
    unfold mx
    split <;> omega
  | x :: y :: l, _ => by
    obtain ⟨z, hz, e⟩ := wm_mem (win := win) h (l := y :: l) (by simp)
    show ∃ x_1 ∈ x :: y :: l, mx (cw win x.f0 L) (wm win L (y :: l)) = _
    by_cases c : cw win x.f0 L < wm win L (y :: l)
    · exact ⟨z, by simp at hz ⊢; exact .inr hz, by unfold mx; rw [if_pos c]; exact e⟩
    · exact ⟨x, by simp, by unfold mx; rw [if_neg c]⟩
/-- No window costs more than the worst one that ends at an element. -/
theorem cw_mono_m {win m m' : Int} (h : m' ≤ m) : ∀ {l : List S37}, Ok l → (∀ x ∈ l, x.f0 ≤ m') → cw win m l ≤ cw win m' l
  | [], _, _ => Int.le_refl _
  | x :: l, ho, hm => by
    have h1 := cw_mono_m (win := win) h ho.tail (fun y hy => hm y (by simp [hy]))
    have h2 := hm x (by simp)
    have h3 := ho x (by simp)
    simp only [cw]
    split <;> split <;> omega
theorem cw_le_aux {win m : Int} {L : List S37} (hO : Ok L) : ∀ (p q : List S37), L = p ++ q → Srt L → (∀ x ∈ q, m < x.f0) → cw win m L ≤ wm win L L := by
  intro p
  induction h : p.length generalizing p with
  | zero =>
    intro q e hS hq
    obtain rfl : p = [] := List.eq_nil_of_length_eq_zero h
    rw [e, List.nil_append, cw_later hq, ← List.nil_append q, ← e]
    exact wm_nonneg hO
  | succ n ih =>
    intro q e hS hq
    obtain ⟨p', y, rfl⟩ : ∃ p' y, p = p' ++ [y] := by
      rcases List.eq_nil_or_concat p with hp | ⟨p', y, hp⟩
      · rw [hp] at h; simp at h
      · exact ⟨p', y, by rw [hp, List.concat_eq_append]⟩
    by_cases c : y.f0 ≤ m
    · have hy : y ∈ L := by rw [e]; simp
      have h1 := (wm_le_iff (win := win) (L := L) (wm_nonneg hO) (l := L)).mp (Int.le_refl _) y hy
      refine Int.le_trans ?_ h1
      rw [e] at hO hS ⊢
      rw [cw_append win m (p' ++ [y]) q, cw_append win y.f0 (p' ++ [y]) q, cw_later hq]
      have h2 := (cw_nonneg (win := win) (m := y.f0) hO.right).1
      have h3 : cw win m (p' ++ [y]) ≤ cw win y.f0 (p' ++ [y]) := cw_mono_m c hO.left (fun x hx => by
        rcases List.mem_append.mp hx with hx | hx
        · exact hS.left.cross x hx y (by simp)
        · obtain rfl : x = y := by simpa using hx
          exact Int.le_refl _)
      omega
    · refine ih p' (by simpa using h) ([y] ++ q) (by rw [e]; simp) hS (fun x hx => ?_)
      rcases List.mem_append.mp hx with hx | hx
      · obtain rfl : x = y := by simpa using hx
        omega
      · exact hq x hx
theorem cw_le_wm {win m : Int} {l : List S37} (h : Srt l) (ho : Ok l) : cw win m l ≤ wm win l l := cw_le_aux ho l [] (by simp) h (fun x hx => by cases hx)
end Go.Proofs.Ytmndechaeaidcaa.Px
