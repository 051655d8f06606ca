/- For every two texts the law KeyAfter answers true: no condition beyond what a Go value of these types can be. -/
import Derived.Test.YtdlhiadekgnieaaQ1x7
import Derived.Test.YtdlhiadekgnieaaKeySpec
set_option linter.unusedVariables false
set_option linter.unusedSimpArgs false
namespace Go.Proofs.Ytdlhiadekgnieaa.Pure
open Go.RowKit Go.Proofs.Ytdlhiadekgnieaa.Q1 Go.Proofs.Ytdlhiadekgnieaa.KeySpec Go.Proofs.YtdlhiadekgnieaaW.PrintWords Go.Proofs.YtdlhiadekgnieaaW.PrintLast Go.Proofs.YtdlhiadekgnieaaW.Ord
theorem KeyAfter : catchmentlaw02_KeyAfter.Pure := by
  intro a0 a1 h0 h1
  refine ⟨0 + 10, ?_⟩
  have hl := live_f 0
  generalize hK : 0 + 10 = K at *
  have ha := after_f a0 (by omega)
  simp only [catchmentlaw02_KeyAfter.f, ha, key_Point.f, Option.bind_some, hl, holds_f, if_true, after_toList]
  have h2 : Op.bytesLess a0.toList (a0.toList ++ [0]) = true := L_append_zero _
  rw [if_pos h2]
  have h3 : ahd a1.toList (a0.toList ++ [0]) = Op.bytesLess a1.toList (a0.toList ++ [0]) := by simp [ahd]
  rw [h3]
  by_cases h4 : Op.bytesLess a0.toList a1.toList = true
  · have h5 : Op.bytesLess a1.toList (a0.toList ++ [0]) = false := by
      have : ¬ L a1.toList (a0.toList ++ [0]) := fun h => L_next.1 h h4
      simpa [L] using this
    have h6 : (a0.toList == a1.toList) = false := by
      rw [beq_eq_false_iff_ne]
      intro e
      rw [e] at h4
      exact L_irrefl _ h4
    simp [h4, h5, h6]
  · have h5 : Op.bytesLess a1.toList (a0.toList ++ [0]) = true := L_next.2 h4
    rw [if_neg h4, h5]
    simp only [Bool.and_true]
    by_cases h6 : Op.bytesLess a1.toList a0.toList = true
    · have h7 : (a0.toList == a1.toList) = false := by
        rw [beq_eq_false_iff_ne]
        intro e
        rw [e] at h6
        exact L_irrefl _ h6
      simp [h6, h7]
    · have := eq_of_not h4 h6
      rw [this] at h6 ⊢
      simp [h6]
end Go.Proofs.Ytdlhiadekgnieaa.Pure
