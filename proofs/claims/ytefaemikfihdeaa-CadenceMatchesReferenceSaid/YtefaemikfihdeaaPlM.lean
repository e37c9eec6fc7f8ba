/- The plain law CadenceMatchesReference. -/
import Derived.Test.YtefaemikfihdeaaPlR
import Derived.Test.YtefaemikfihdeaaPxx24
import Derived.OpenShut
namespace Go.Proofs.Ytefaemikfihdeaa.Px
open Go.RowKit Go.Proofs.YtefaemikfihdeaaW.PrintWords Go.Proofs.YtefaemikfihdeaaW.PrintLast Go.Proofs.YtefaemikfihdeaaW.PrintMore
set_option linter.unusedVariables false
set_option linter.unusedSimpArgs false

theorem matches_pure (l : List S35) (a c0 c1 c2 : Int) (c3 : Bool) (m : Int) (ms : List Int) (hl : l.length ≤ 140737488351232) (hm : ms.length ≤ 140737488351232) : ∃ k, observatorylaw24_CadenceMatchesReference.f k l a c0 c1 c2 c3 m ms = some true := by
  obtain ⟨K1, h1⟩ := advance_ev l a c0 c1 c2 c3 m hl
  obtain ⟨K2, h2⟩ := radvance_ev l a c0 c1 c2 c3 m hl
  obtain ⟨K3, h3⟩ := replay_ev l a ms hl hm
  obtain ⟨K4, h4⟩ := rreplay_ev l a ms hl hm
  obtain ⟨K5, h5⟩ := window_ev l a c0 c1 c2 c3 hl
  obtain ⟨K6, h6⟩ := rwindow_ev l a c0 c1 c2 c3 hl
  obtain ⟨K7, h7⟩ := valid_ev l a hl
  obtain ⟨K8, h8⟩ := rvalid_ev l a hl
  obtain ⟨K9, h9⟩ := ready_ev l a c0 c1 c2 c3 m hl
  obtain ⟨K10, h10⟩ := rready_ev l a c0 c1 c2 c3 m hl
  obtain ⟨n, hn⟩ : ∃ n, n = K1 + K2 + K3 + K4 + K5 + K6 + K7 + K8 + K9 + K10 := ⟨_, rfl⟩
  refine ⟨n + 1, ?_⟩
  replace h1 := h1 n (by omega)
  replace h2 := h2 n (by omega)
  replace h3 := h3 n (by omega)
  replace h4 := h4 n (by omega)
  replace h5 := h5 n (by omega)
  replace h6 := h6 n (by omega)
  replace h7 := h7 n (by omega)
  replace h8 := h8 n (by omega)
  replace h9 := h9 n (by omega)
  replace h10 := h10 n (by omega)
  simp only at h1 h2 h3 h4 h5 h6 h7 h8 h9 h10
  have e : ∀ b, observatorylaw24_CadenceMatchesReference.j0 (n + 1) m ms true b l a c0 c1 c2 c3 = some true := by
    intro b
    cases b
    · simp only [observatorylaw24_CadenceMatchesReference.j0, h1, h2, h3, h4, h5, h6, h7, h8, h9, h10, Option.bind_some]
      simp
    · rfl
  simp only [observatorylaw24_CadenceMatchesReference.f, observatorylaw24_head.f, observatoryref24_Few.f, Option.bind_some]
  split <;> exact e _

theorem few_no {l : List S35} {a : Int} (h : ¬ l.length ≤ 50) : observatoryref24_Few.f l a = some false := by
  unfold observatoryref24_Few.f
  rw [decide_eq_false (by omega)]
theorem few_yes {l : List S35} {a : Int} (h : l.length ≤ 50) : observatoryref24_Few.f l a = some true := by
  unfold observatoryref24_Few.f
  rw [decide_eq_true (by omega)]
theorem CadenceMatchesReference_law (l : List S35) (a : Int) (c0 c1 c2 : Int) (c3 : Bool) (m : Int) (ms : List Int) : ∃ k, observatorylaw24_CadenceMatchesReference.f k l a c0 c1 c2 c3 m ms = some true := by
  by_cases h : l.length ≤ 50
  · by_cases h2 : ms.length ≤ 200
    · exact matches_pure l a c0 c1 c2 c3 m ms (by omega) (by omega)
    · refine ⟨1, ?_⟩
      have hd : decide ((ms.length : Int) > 200) = true := decide_eq_true (by omega)
      simp only [observatorylaw24_CadenceMatchesReference.f, observatorylaw24_head.f, few_yes h, Option.bind_some, hd, observatorylaw24_CadenceMatchesReference.j0, if_true]
  · refine ⟨1, ?_⟩
    simp only [observatorylaw24_CadenceMatchesReference.f, observatorylaw24_head.f, few_no h, Option.bind_some]
    rfl
end Go.Proofs.Ytefaemikfihdeaa.Px
