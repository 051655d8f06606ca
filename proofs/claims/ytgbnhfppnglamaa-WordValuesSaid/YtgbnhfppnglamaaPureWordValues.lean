/- For every text, whether there is one, and number the law WordValues answers true: no condition beyond what a Go value of these types can be. -/
import Derived.Test.YtgbnhfppnglamaaQ2x11
import Derived.Test.YtgbnhfppnglamaaWordSpec
set_option linter.unusedVariables false
set_option linter.unusedSimpArgs false
namespace Go.Proofs.Ytgbnhfppnglamaa.Pure
open Go.RowKit Go.Proofs.Ytgbnhfppnglamaa.Q2 Go.Proofs.Ytgbnhfppnglamaa.WordSpec Go.Proofs.YtgbnhfppnglamaaW.PrintWords Go.Proofs.YtgbnhfppnglamaaW.PrintLast Go.Proofs.YtgbnhfppnglamaaW.Ord
theorem WordValues : catchmentlaw03_WordValues.Pure := by
  intro s is n hs hn
  have ha : 0 ≤ n ∧ n ≤ 18446744073709551615 := by simpa [Lit.wf, IntKind.min, IntKind.max, IntKind.signed, IntKind.bits] using hn
  obtain ⟨K, hK⟩ : ∃ K : Nat, 20 ≤ K := ⟨20, Nat.le_refl _⟩
  refine ⟨K, ?_⟩
  unfold catchmentlaw03_WordValues.f word_Put.f
  rw [take_f K (by omega), refTake_f K (by omega), live_ge hK, refPut_f K (by omega) n ha.1 ha.2, add_f K (by omega), refAdd_f K (by omega) s is n ha.1 ha.2]
  generalize (if s.size = 8 then (num s.toList, true) else (0, false)) = t
  generalize add s is n = u
  generalize strOfNums (word_Put.nums n) = v
  simp
end Go.Proofs.Ytgbnhfppnglamaa.Pure
