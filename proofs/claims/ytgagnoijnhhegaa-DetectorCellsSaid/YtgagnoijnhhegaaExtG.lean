/- Opening arguments that are structs and short arrays by value: a value of such a type, as it can be read, is written out. -/
import Derived.Test.YtgagnoijnhhegaaProg
import Derived.ProofKit
import Derived.WalkKit
import Derived.OpenShut
import Derived.Lib.SmallJoins
namespace Go.Proofs.Ytgagnoijnhhegaa.Opens
open Go.ChangeShapes Go.WideShapes Go.ChangeAt Go.RowKit
section
variable {H : Type} {enc : TypeId × Value → H} {P : Program} {w : World} {base : Nat} {b0 : Nat} {spare : Nat → Bool} {held : Bool} {r : Reach} {t e : TypeId} {v : Value} {d : DataW H} {p : List MemPlace}
theorem okWide_arr {n : Nat} (ht : P.underlying t = some (.array n e)) (h : Value.okWide P w r base t v) : ∃ cs, v = .agg cs ∧ cs.size = P.cellsOf t := by
  simp only [Value.okWide, ht] at h
  obtain ⟨cs, h1, h2, _⟩ := h
  exact ⟨cs, h1, h2⟩
theorem arr4_cells (ht : P.underlying t = some (.array 4 e)) (hc : P.cellsOf e = 1) (hct : P.cellsOf t = 4) (hv : Value.okWide P w r base t v) (h : DataW.Trod enc P w b0 spare held t v d p) :
    ∃ c0 c1 c2 c3, v = .agg #[c0, c1, c2, c3] ∧ ∃ m y0 y1 y2 y3, DataW.trod enc P w b0 spare held m e [c0] = some y0 ∧ DataW.trod enc P w b0 spare held m e [c1] = some y1 ∧ DataW.trod enc P w b0 spare held m e [c2] = some y2 ∧ DataW.trod enc P w b0 spare held m e [c3] = some y3 := by
  obtain ⟨cs, rfl, hsz⟩ := okWide_arr ht hv
  rw [hct] at hsz
  obtain ⟨c0, c1, c2, c3, rfl⟩ := Go.Joins.array4 hsz
  obtain ⟨fuel, hf⟩ := h
  obtain ⟨xs, m, _, _, _, hl, hi⟩ := DataW.trod_array ht hf
  rw [hc] at hi
  obtain ⟨y0, e0⟩ : ∃ y, xs[0]? = some y := ⟨_, List.getElem?_eq_getElem (by omega)⟩
  obtain ⟨y1, e1⟩ : ∃ y, xs[1]? = some y := ⟨_, List.getElem?_eq_getElem (by omega)⟩
  obtain ⟨y2, e2⟩ : ∃ y, xs[2]? = some y := ⟨_, List.getElem?_eq_getElem (by omega)⟩
  obtain ⟨y3, e3⟩ : ∃ y, xs[3]? = some y := ⟨_, List.getElem?_eq_getElem (by omega)⟩
  exact ⟨c0, c1, c2, c3, rfl, m, y0, y1, y2, y3, (hi 0 (by omega)).trans e0, (hi 1 (by omega)).trans e1, (hi 2 (by omega)).trans e2, (hi 3 (by omega)).trans e3⟩
theorem open_arr4i (ht : P.underlying t = some (.array 4 e)) (he : P.underlying e = some (.int .i64)) (hc : P.cellsOf e = 1) (hct : P.cellsOf t = 4) (hv : Value.okWide P w r base t v) (h : DataW.Trod enc P w b0 spare held t v d p) :
    ∃ x0 x1 x2 x3, v = .agg #[.int .i64 x0, .int .i64 x1, .int .i64 x2, .int .i64 x3] := by
  obtain ⟨c0, c1, c2, c3, rfl, m, y0, y1, y2, y3, h0, h1, h2, h3⟩ := arr4_cells ht hc hct hv h
  obtain ⟨x0, e0, _⟩ := DataW.trod_int he h0
  obtain ⟨x1, e1, _⟩ := DataW.trod_int he h1
  obtain ⟨x2, e2, _⟩ := DataW.trod_int he h2
  obtain ⟨x3, e3, _⟩ := DataW.trod_int he h3
  simp only [List.cons.injEq, and_true] at e0 e1 e2 e3
  subst e0; subst e1; subst e2; subst e3
  exact ⟨x0, x1, x2, x3, rfl⟩
theorem open_arr4b (ht : P.underlying t = some (.array 4 e)) (he : P.underlying e = some .bool) (hc : P.cellsOf e = 1) (hct : P.cellsOf t = 4) (hv : Value.okWide P w r base t v) (h : DataW.Trod enc P w b0 spare held t v d p) :
    ∃ x0 x1 x2 x3, v = .agg #[.bool x0, .bool x1, .bool x2, .bool x3] := by
  obtain ⟨c0, c1, c2, c3, rfl, m, y0, y1, y2, y3, h0, h1, h2, h3⟩ := arr4_cells ht hc hct hv h
  obtain ⟨x0, e0, _⟩ := DataW.trod_bool he h0
  obtain ⟨x1, e1, _⟩ := DataW.trod_bool he h1
  obtain ⟨x2, e2, _⟩ := DataW.trod_bool he h2
  obtain ⟨x3, e3, _⟩ := DataW.trod_bool he h3
  simp only [List.cons.injEq, and_true] at e0 e1 e2 e3
  subst e0; subst e1; subst e2; subst e3
  exact ⟨x0, x1, x2, x3, rfl⟩
theorem array5 {α : Type} {cs : Array α} (h : cs.size = 5) : ∃ c0 c1 c2 c3 c4, cs = #[c0, c1, c2, c3, c4] := by
  obtain ⟨l⟩ := cs
  match l, h with
  | [c0, c1, c2, c3, c4], _ => exact ⟨c0, c1, c2, c3, c4, rfl⟩
theorem open_det (hv : Value.okWide Try.prog w r base 23 v) (h : DataW.Trod enc Try.prog w b0 spare held 23 v d p) :
    ∃ x0 x1 x2 x3 x4, v = .agg #[.int .i64 x0, .int .i64 x1, .int .i64 x2, .int .i64 x3, .int .i64 x4] := by
  obtain ⟨cs, rfl, hsz⟩ := okWide_struct Try.underlying23 hv
  have hct : Try.prog.cellsOf 23 = 5 := by kernel_rfl
  have hc : Try.prog.cellsOf 3 = 1 := by kernel_rfl
  rw [hct] at hsz
  obtain ⟨c0, c1, c2, c3, c4, rfl⟩ := array5 hsz
  obtain ⟨fuel, hf⟩ := h
  obtain ⟨xs, m, _, _, _, hl', hi⟩ := DataW.trod_struct Try.underlying23 hf
  have hl : xs.length = 5 := hl'
  have a0 : DataW.trod enc Try.prog w b0 spare held m 3 [c0] = xs[0]? := by
    have h_ := hi 0 { name := "Gain", type := 3, offset := 0, embedded := false, tag := "", pkgPath := "", byteOffset := 0 } rfl
    simp only [hc] at h_
    exact h_
  have a1 : DataW.trod enc Try.prog w b0 spare held m 3 [c1] = xs[1]? := by
    have h_ := hi 1 { name := "Bias", type := 3, offset := 1, embedded := false, tag := "", pkgPath := "", byteOffset := 8 } rfl
    simp only [hc] at h_
    exact h_
  have a2 : DataW.trod enc Try.prog w b0 spare held m 3 [c2] = xs[2]? := by
    have h_ := hi 2 { name := "Dark", type := 3, offset := 2, embedded := false, tag := "", pkgPath := "", byteOffset := 16 } rfl
    simp only [hc] at h_
    exact h_
  have a3 : DataW.trod enc Try.prog w b0 spare held m 3 [c3] = xs[3]? := by
    have h_ := hi 3 { name := "Full", type := 3, offset := 3, embedded := false, tag := "", pkgPath := "", byteOffset := 24 } rfl
    simp only [hc] at h_
    exact h_
  have a4 : DataW.trod enc Try.prog w b0 spare held m 3 [c4] = xs[4]? := by
    have h_ := hi 4 { name := "Keep", type := 3, offset := 4, embedded := false, tag := "", pkgPath := "", byteOffset := 32 } rfl
    simp only [hc] at h_
    exact h_
  obtain ⟨y0, e0⟩ : ∃ y, xs[0]? = some y := ⟨_, List.getElem?_eq_getElem (by omega)⟩
  obtain ⟨y1, e1⟩ : ∃ y, xs[1]? = some y := ⟨_, List.getElem?_eq_getElem (by omega)⟩
  obtain ⟨y2, e2⟩ : ∃ y, xs[2]? = some y := ⟨_, List.getElem?_eq_getElem (by omega)⟩
  obtain ⟨y3, e3⟩ : ∃ y, xs[3]? = some y := ⟨_, List.getElem?_eq_getElem (by omega)⟩
  obtain ⟨y4, e4⟩ : ∃ y, xs[4]? = some y := ⟨_, List.getElem?_eq_getElem (by omega)⟩
  obtain ⟨x0, q0, _⟩ := DataW.trod_int Try.underlying3 (a0.trans e0)
  obtain ⟨x1, q1, _⟩ := DataW.trod_int Try.underlying3 (a1.trans e1)
  obtain ⟨x2, q2, _⟩ := DataW.trod_int Try.underlying3 (a2.trans e2)
  obtain ⟨x3, q3, _⟩ := DataW.trod_int Try.underlying3 (a3.trans e3)
  obtain ⟨x4, q4, _⟩ := DataW.trod_int Try.underlying3 (a4.trans e4)
  simp only [List.cons.injEq, and_true] at q0 q1 q2 q3 q4
  subst q0; subst q1; subst q2; subst q3; subst q4
  exact ⟨x0, x1, x2, x3, x4, rfl⟩
end
end Go.Proofs.Ytgagnoijnhhegaa.Opens
