/- For every text and three numbers the law WordTakes answers true: no condition beyond what a Go value of these types can be. -/
import Derived.Test.YtgbnhfppnglamaaQ2x20
import Derived.Test.YtgbnhfppnglamaaTextSpec
set_option linter.unusedVariables false
set_option linter.unusedSimpArgs false
namespace Go.Proofs.Ytgbnhfppnglamaa.Pure
open Go.RowKit Go.Proofs.Ytgbnhfppnglamaa.Q2 Go.Proofs.Ytgbnhfppnglamaa.WordSpec Go.Proofs.Ytgbnhfppnglamaa.NumSpec Go.Proofs.Ytgbnhfppnglamaa.TextSpec Go.Proofs.YtgbnhfppnglamaaW.PrintWords Go.Proofs.YtgbnhfppnglamaaW.PrintLast Go.Proofs.YtgbnhfppnglamaaW.Ord
theorem WordTakes : catchmentlaw03_WordTakes.Pure := by
  intro s a b c hs h1 h2 h3
  clear h1 h2 h3
  obtain ⟨K, hK⟩ : ∃ K : Nat, 5000 ≤ K := ⟨5000, Nat.le_refl _⟩
  refine ⟨K + 1, ?_⟩
  unfold catchmentlaw03_WordTakes.f
  have hlive : catchmentlaw03_WordTakes.j0 (K + 1) s a b c true = some true := by
    rw [catchmentlaw03_WordTakes.j0, if_pos rfl, live_ge (by omega)]
    rfl
  by_cases hbig : (s.size : Int) > 2000
  · rw [if_pos hbig, hlive]
  · rw [if_neg hbig]
    by_cases hb : b > 2000
    · rw [decide_eq_true hb, hlive]
    · rw [decide_eq_false hb, catchmentlaw03_WordTakes.j0, if_neg (by decide), takeNum_f K (by omega) s (by omega), Option.bind_some, refTakeNum_f K (by omega) s (by omega), Option.bind_some,
        takeText_f K (by omega) s (by omega), Option.bind_some, refTakeText_f K (by omega) s (by omega), Option.bind_some, takeTexts_f K s b c (by omega) (by omega) (by omega), Option.bind_some,
        refTakeTexts_f K s b c (by omega) (by omega) (by omega), Option.bind_some, live_ge (by omega), Option.bind_some, if_pos rfl, if_pos rfl, if_pos rfl, if_pos rfl, if_pos rfl, if_pos rfl, if_pos rfl]
      have hl := tts_length c b.toNat s []
      rw [List.length_nil] at hl
      rw [same_f K _ (by omega) (by omega), Option.bind_some, if_pos rfl, if_pos rfl, if_pos rfl, num_f K (by omega), Option.bind_some, refNum_f K (by omega), Option.bind_some]
      simp
end Go.Proofs.Ytgbnhfppnglamaa.Pure
