/- For every word and every version the law VlockReads answers true: no condition beyond what a Go value of these types can be. -/
import Derived.Test.YtdlhiadekgnieaaQ1x10
import Derived.Test.YtdlhiadekgnieaaQ1x9
import Derived.Test.YtdlhiadekgnieaaQ1x7
import Derived.Test.YtdlhiadekgnieaaVlockSpec
set_option linter.unusedVariables false
set_option linter.unusedSimpArgs false
namespace Go.Proofs.Ytdlhiadekgnieaa.Pure
open Go.RowKit Go.Proofs.Ytdlhiadekgnieaa.Q1 Go.Proofs.Ytdlhiadekgnieaa.VlockSpec Go.Proofs.YtdlhiadekgnieaaW.PrintWords Go.Proofs.YtdlhiadekgnieaaW.PrintLast Go.Proofs.YtdlhiadekgnieaaW.Ord
theorem VlockReads : catchmentlaw07_VlockReads.Pure := by
  intro y0 a1 h0 h1
  refine ⟨0 + 10, ?_⟩
  have hl := live_f 0
  generalize hK : 0 + 10 = K at *
  obtain ⟨v, o, g⟩ := y0
  simp only [catchmentlaw07_VlockReads.f, valid_f, hl, Option.bind_some, vlock_Begin.f, catchmentref07_Begin.f, catchmentref07_Valid.f, val]
  cases g
  · by_cases h2 : o = 0
    · by_cases h3 : v = a1 <;> simp [h2, h3]
    · by_cases h3 : v = a1 <;> simp [h2, h3]
  · simp
end Go.Proofs.Ytdlhiadekgnieaa.Pure
