/- For every two texts and every number the law KeyEnds answers true: no condition beyond what a Go value of these types can be. -/
import Derived.Test.YtdlhiadekgnieaaQ1x13
import Derived.Test.YtdlhiadekgnieaaKeySpec
set_option linter.unusedVariables false
set_option linter.unusedSimpArgs false
namespace Go.Proofs.Ytdlhiadekgnieaa.Pure
open Go.RowKit Go.Proofs.Ytdlhiadekgnieaa.Q1 Go.Proofs.Ytdlhiadekgnieaa.KeySpec Go.Proofs.YtdlhiadekgnieaaW.PrintWords Go.Proofs.YtdlhiadekgnieaaW.PrintLast Go.Proofs.YtdlhiadekgnieaaW.Ord
theorem KeyEnds : catchmentlaw02_KeyEnds.Pure := by
  intro a0 a1 a2 h0 h1 h2
  refine ⟨0 + 10 + 1, ?_⟩
  have hl := live_f 0
  have hs : (a0.size : Int) = 0 ∨ (a0.size : Int) ≥ 1 := by omega
  have hb : ∀ b : Bool, (b == b) = true := by decide
  generalize hK : 0 + 10 = K at *
  simp only [catchmentlaw02_KeyEnds.f, refBefore_f, Option.bind_some, catchmentlaw02_KeyEnds.j0, hl, key_Right.f, before_f, first_f, last_f]
  have e0 : a0.toList = [] ↔ a0.size = 0 := toList_eq_nil
  by_cases hn : a0.toList = []
  · have hz : ¬ ((a0.size : Int) ≥ 1) := by have := e0.1 hn; omega
    cases hb1 : bef a1.toList a0.toList <;> cases hb2 : bef a0.toList a1.toList
    · simp [hn, hz]
      have : ¬ (a1.toList ≠ [] ∧ (a0.toList = [] ∨ L a1.toList a0.toList)) := by rw [← bef_iff, hb1]; simp
      by_cases h : a1.toList = []
      · simp [h]
      · exact absurd ⟨h, .inl hn⟩ this
    · exact absurd hn (bef_iff.1 hb2).1
    · simp [hn, hz]
    · exact absurd hn (bef_iff.1 hb2).1
  · have hz : (a0.size : Int) ≥ 1 := by
      rcases hs with h | h
      · exact absurd (e0.2 (by omega)) hn
      · exact h
    cases hb1 : bef a1.toList a0.toList <;> cases hb2 : bef a0.toList a1.toList
    · have h3 : ¬ (a1.toList ≠ [] ∧ (a0.toList = [] ∨ L a1.toList a0.toList)) := by rw [← bef_iff, hb1]; simp
      have h4 : ¬ (a0.toList ≠ [] ∧ (a1.toList = [] ∨ L a0.toList a1.toList)) := by rw [← bef_iff, hb2]; simp
      have h5 : a1.toList = a0.toList := by
        by_cases h : a1.toList = []
        · exact absurd ⟨hn, .inl h⟩ h4
        · exact eq_of_not (fun h6 => h3 ⟨h, .inr h6⟩) (fun h6 => h4 ⟨hn, .inr h6⟩)
      simp [hn, hz, h5]
    · simp [hn, hz]
    · simp [hn, hz]
    · have h3 := bef_iff.1 hb1
      have h4 := bef_iff.1 hb2
      rcases h4.2 with h | h
      · exact absurd h h3.1
      · rcases h3.2 with h5 | h5
        · exact absurd h5 h4.1
        · exact absurd h5 (L_asymm h)
end Go.Proofs.Ytdlhiadekgnieaa.Pure
