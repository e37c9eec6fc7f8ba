/- Opening arguments: slices of structs, and structs, as the walks take them. -/
import Derived.Test.YtefaemikfihdeaaPxx0
import Derived.ProofKit
import Derived.WalkKit
import Derived.OpenShut
import Derived.Lib.SmallJoins
import Derived.Deep.Slices
import Derived.Deep.Fields
import Derived.ChangeSame
namespace Go.Proofs.Ytefaemikfihdeaa.Opens
open Go.ChangeShapes Go.WideShapes Go.ChangeAt Go.RowKit Go.Deep Go.Proofs.Ytefaemikfihdeaa.Px Go.Proofs.YtefaemikfihdeaaW.PrintWords
set_option linter.unusedVariables false
section
variable {H : Type} {enc : TypeId × Value → H} {P : Program} {w : World} {base : Nat} {b0 : Nat} {spare : Nat → Bool} {held : Bool} {r : Reach} {t e : TypeId} {v : Value} {d : DataW H} {p : List MemPlace}
theorem list_of {α : Type} (Q : Nat → α → Prop) : ∀ n, (∀ i, i < n → ∃ x, Q i x) → ∃ l : List α, l.length = n ∧ ∀ i x, l[i]? = some x → Q i x
  | 0, _ => ⟨[], rfl, fun i x h => by simp at h⟩
  | n + 1, h => by
    obtain ⟨l, hl, hq⟩ := list_of Q n (fun i hi => h i (by omega))
    obtain ⟨x, hx⟩ := h n (by omega)
    refine ⟨l ++ [x], by simp [hl], fun i y hy => ?_⟩
    rcases Nat.lt_or_ge i l.length with c | c
    · rw [List.getElem?_append_left c] at hy
      exact hq i y hy
    · rw [List.getElem?_append_right c] at hy
      have e : i - l.length = 0 := by
        rcases Nat.eq_zero_or_pos (i - l.length) with z | z
        · exact z
        · rw [List.getElem?_eq_none (by simp; omega)] at hy
          cases hy
      rw [e] at hy
      obtain rfl : x = y := by simpa using hy
      rw [show i = n by omega]
      exact hx
theorem open_row35 {fuel : Nat} {cs : List Value} {x : DataW H × List MemPlace} (h : DataW.trod enc Try.prog w b0 (fun _ => true) held fuel 22 cs = some x) :
    ∃ A len cap, ∃ l : List S35, cs = [.slice A len cap] ∧ l.length = len ∧ len ≤ cap ∧ Kd.C k35 w A len l ∧ ∀ y ∈ l, (Lit.int .i64 y.f0).wf = true ∧ (Lit.int .i64 y.f1).wf = true ∧ (Lit.int .i64 y.f2).wf = true := by
  have hC : Try.prog.cellsOf 35 = 3 := by kernel_rfl
  have hc3 : Try.prog.cellsOf 3 = 1 := by kernel_rfl
  rcases open_slice Try.underlying22 h with ⟨rfl, _⟩ | ⟨a, len, cap, m, n, D, Pl, rfl, hb, hl, hm, hmm, hx, hi⟩
  · exact ⟨none, 0, 0, [], rfl, rfl, Nat.le_refl _, ⟨rfl, by omega, fun h => absurd h (Nat.lt_irrefl 0)⟩, fun y hy => by cases hy⟩
  · obtain ⟨l, hll, hq⟩ := list_of (fun i (s : S35) => (w.cell? (a.add (i * 3 + 0)) = some (.int .i64 s.f0) ∧ w.cell? (a.add (i * 3 + 1)) = some (.int .i64 s.f1) ∧ w.cell? (a.add (i * 3 + 2)) = some (.int .i64 s.f2)) ∧ (Lit.int .i64 s.f0).wf = true ∧ (Lit.int .i64 s.f1).wf = true ∧ (Lit.int .i64 s.f2).wf = true) len (fun i hil => by
      obtain ⟨cs', hcs, ht'⟩ := hi i (by rw [hmm]; simp; omega)
      rw [hC] at hcs
      obtain ⟨xs, n', _, _, hlen, hyl', hf⟩ := DataW.trod_struct Try.underlying35 ht'
      have hyl : xs.length = 3 := hyl'
      obtain ⟨_, hcl, hat⟩ := World.cells?_some hcs
      obtain ⟨c0, c1, c2, rfl⟩ : ∃ c0 c1 c2, cs' = [c0, c1, c2] := by
        match cs', hcl with
        | [c0, c1, c2], _ => exact ⟨c0, c1, c2, rfl⟩
      have a0 : DataW.trod enc Try.prog w b0 (fun _ => true) held n' 3 [c0] = xs[0]? := by
        have h_ := hf 0 { name := "Filter", type := 3, offset := 0, embedded := false, tag := "", pkgPath := "", byteOffset := 0 } rfl
        simp only [hc3] at h_
        exact h_
      obtain ⟨y0, e0⟩ : ∃ y, xs[0]? = some y := ⟨_, List.getElem?_eq_getElem (by omega)⟩
      obtain ⟨x0, q0, _, wf0⟩ := DataW.trod_int Try.underlying3 (a0.trans e0)
      have a1 : DataW.trod enc Try.prog w b0 (fun _ => true) held n' 3 [c1] = xs[1]? := by
        have h_ := hf 1 { name := "Least", type := 3, offset := 1, embedded := false, tag := "", pkgPath := "", byteOffset := 8 } rfl
        simp only [hc3] at h_
        exact h_
      obtain ⟨y1, e1⟩ : ∃ y, xs[1]? = some y := ⟨_, List.getElem?_eq_getElem (by omega)⟩
      obtain ⟨x1, q1, _, wf1⟩ := DataW.trod_int Try.underlying3 (a1.trans e1)
      have a2 : DataW.trod enc Try.prog w b0 (fun _ => true) held n' 3 [c2] = xs[2]? := by
        have h_ := hf 2 { name := "Most", type := 3, offset := 2, embedded := false, tag := "", pkgPath := "", byteOffset := 16 } rfl
        simp only [hc3] at h_
        exact h_
      obtain ⟨y2, e2⟩ : ∃ y, xs[2]? = some y := ⟨_, List.getElem?_eq_getElem (by omega)⟩
      obtain ⟨x2, q2, _, wf2⟩ := DataW.trod_int Try.underlying3 (a2.trans e2)
      simp only [List.cons.injEq, and_true] at q0 q1 q2
      subst q0; subst q1; subst q2
      exact ⟨⟨x0, x1, x2⟩, ⟨by have h_ := hat 0 (by omega); rw [← Go.Deep.add_add]; exact h_, by have h_ := hat 1 (by omega); rw [← Go.Deep.add_add]; exact h_, by have h_ := hat 2 (by omega); rw [← Go.Deep.add_add]; exact h_⟩, wf0, wf1, wf2⟩)
    refine ⟨some a, len, cap, l, rfl, hll, hl, ⟨hll, by unfold maxLen at hm; omega, fun _ => ⟨a, rfl, fun j y hj => ⟨[.int .i64 y.f0, .int .i64 y.f1, .int .i64 y.f2], rfl, k35_mk w y, fun i u hu => ?_⟩⟩⟩, fun y hy => ?_⟩
    · have hh := (hq j y hj).1
      match i, hu with
      | 0, hu => obtain rfl := Option.some.inj hu; exact hh.1
      | 1, hu => obtain rfl := Option.some.inj hu; exact hh.2.1
      | 2, hu => obtain rfl := Option.some.inj hu; exact hh.2.2
      | i + 3, hu => simp at hu
    · obtain ⟨j, hj⟩ := List.mem_iff_getElem?.mp hy
      exact (hq j y hj).2
theorem open_seq (hv : Value.okWide Try.prog w r base 24 v) (h : DataW.Trod enc Try.prog w b0 (fun _ => true) held 24 v d p) :
    ∃ A len cap x, ∃ l : List S35, v = .agg #[.slice A len cap, .int .i64 x] ∧ l.length = len ∧ len ≤ cap ∧ Kd.C k35 w A len l := by
  obtain ⟨cs, rfl, hsz⟩ := okWide_struct Try.underlying24 hv
  have hct : Try.prog.cellsOf 24 = 2 := by kernel_rfl
  have hc3 : Try.prog.cellsOf 3 = 1 := by kernel_rfl
  have hc22 : Try.prog.cellsOf 22 = 1 := by kernel_rfl
  rw [hct] at hsz
  obtain ⟨c0, c1, rfl⟩ : ∃ c0 c1, cs = #[c0, c1] := by
    obtain ⟨l⟩ := cs
    match l, hsz with
    | [c0, c1], _ => exact ⟨c0, c1, rfl⟩
  obtain ⟨fuel, hf⟩ := h
  obtain ⟨xs, m, _, _, _, hl', hi⟩ := DataW.trod_struct Try.underlying24 hf
  have hl : xs.length = 2 := hl'
  have a0 : DataW.trod enc Try.prog w b0 (fun _ => true) held m 22 [c0] = xs[0]? := by
    have h_ := hi 0 { name := "Steps", type := 22, offset := 0, embedded := false, tag := "", pkgPath := "", byteOffset := 0 } rfl
    simp only [hc22] at h_
    exact h_
  have a1 : DataW.trod enc Try.prog w b0 (fun _ => true) held m 3 [c1] = xs[1]? := by
    have h_ := hi 1 { name := "Repeat", type := 3, offset := 1, embedded := false, tag := "", pkgPath := "", byteOffset := 24 } rfl
    simp only [hc3] at h_
    exact h_
  obtain ⟨y0, e0⟩ : ∃ y, xs[0]? = some y := ⟨_, List.getElem?_eq_getElem (by omega)⟩
  obtain ⟨y1, e1⟩ : ∃ y, xs[1]? = some y := ⟨_, List.getElem?_eq_getElem (by omega)⟩
  obtain ⟨A, len, cap, l, q0, ql, qc, qk, _⟩ := open_row35 (a0.trans e0)
  obtain ⟨x1, q1, _⟩ := DataW.trod_int Try.underlying3 (a1.trans e1)
  simp only [List.cons.injEq, and_true] at q0 q1
  subst q0; subst q1
  exact ⟨A, len, cap, x1, l, rfl, ql, qc, qk⟩
theorem open_course (hv : Value.okWide Try.prog w r base 30 v) (h : DataW.Trod enc Try.prog w b0 (fun _ => true) held 30 v d p) :
    ∃ x0 x1 x2 x3, v = .agg #[.int .i64 x0, .int .i64 x1, .int .i64 x2, .bool x3] := by
  obtain ⟨cs, rfl, hsz⟩ := okWide_struct Try.underlying30 hv
  have hct : Try.prog.cellsOf 30 = 4 := by kernel_rfl
  have hc3 : Try.prog.cellsOf 3 = 1 := by kernel_rfl
  have hc4 : Try.prog.cellsOf 4 = 1 := by kernel_rfl
  rw [hct] at hsz
  obtain ⟨c0, c1, c2, c3, rfl⟩ : ∃ c0 c1 c2 c3, cs = #[c0, c1, c2, c3] := by
    obtain ⟨l⟩ := cs
    match l, hsz with
    | [c0, c1, c2, c3], _ => exact ⟨c0, c1, c2, c3, rfl⟩
  obtain ⟨fuel, hf⟩ := h
  obtain ⟨xs, m, _, _, _, hl', hi⟩ := DataW.trod_struct Try.underlying30 hf
  have hl : xs.length = 4 := hl'
  have a0 : DataW.trod enc Try.prog w b0 (fun _ => true) held m 3 [c0] = xs[0]? := by
    have h_ := hi 0 { name := "Next", type := 3, offset := 0, embedded := false, tag := "", pkgPath := "", byteOffset := 0 } rfl
    simp only [hc3] at h_
    exact h_
  obtain ⟨y0, e0⟩ : ∃ y, xs[0]? = some y := ⟨_, List.getElem?_eq_getElem (by omega)⟩
  obtain ⟨x0, q0, _⟩ := DataW.trod_int Try.underlying3 (a0.trans e0)
  have a1 : DataW.trod enc Try.prog w b0 (fun _ => true) held m 3 [c1] = xs[1]? := by
    have h_ := hi 1 { name := "Round", type := 3, offset := 1, embedded := false, tag := "", pkgPath := "", byteOffset := 8 } rfl
    simp only [hc3] at h_
    exact h_
  obtain ⟨y1, e1⟩ : ∃ y, xs[1]? = some y := ⟨_, List.getElem?_eq_getElem (by omega)⟩
  obtain ⟨x1, q1, _⟩ := DataW.trod_int Try.underlying3 (a1.trans e1)
  have a2 : DataW.trod enc Try.prog w b0 (fun _ => true) held m 3 [c2] = xs[2]? := by
    have h_ := hi 2 { name := "Last", type := 3, offset := 2, embedded := false, tag := "", pkgPath := "", byteOffset := 16 } rfl
    simp only [hc3] at h_
    exact h_
  obtain ⟨y2, e2⟩ : ∃ y, xs[2]? = some y := ⟨_, List.getElem?_eq_getElem (by omega)⟩
  obtain ⟨x2, q2, _⟩ := DataW.trod_int Try.underlying3 (a2.trans e2)
  have a3 : DataW.trod enc Try.prog w b0 (fun _ => true) held m 4 [c3] = xs[3]? := by
    have h_ := hi 3 { name := "Over", type := 4, offset := 3, embedded := false, tag := "", pkgPath := "", byteOffset := 24 } rfl
    simp only [hc4] at h_
    exact h_
  obtain ⟨y3, e3⟩ : ∃ y, xs[3]? = some y := ⟨_, List.getElem?_eq_getElem (by omega)⟩
  obtain ⟨x3, q3, _⟩ := DataW.trod_bool Try.underlying4 (a3.trans e3)
  simp only [List.cons.injEq, and_true] at q0 q1 q2 q3
  subst q0; subst q1; subst q2; subst q3
  exact ⟨x0, x1, x2, x3, rfl⟩
end
end Go.Proofs.Ytefaemikfihdeaa.Opens
