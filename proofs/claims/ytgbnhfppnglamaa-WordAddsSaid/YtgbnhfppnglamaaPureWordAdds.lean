/- For every text, whether there is one, and two numbers the law WordAdds answers true: no condition beyond what a Go value of these types can be. -/
import Derived.Test.YtgbnhfppnglamaaQ2x12
import Derived.Test.YtgbnhfppnglamaaWordSpec
set_option linter.unusedVariables false
set_option linter.unusedSimpArgs false
namespace Go.Proofs.Ytgbnhfppnglamaa.Pure
open Go.RowKit Go.Proofs.Ytgbnhfppnglamaa.Q2 Go.Proofs.Ytgbnhfppnglamaa.WordSpec Go.Proofs.YtgbnhfppnglamaaW.PrintWords Go.Proofs.YtgbnhfppnglamaaW.PrintLast Go.Proofs.YtgbnhfppnglamaaW.Ord
theorem put_size (n : Int) : (strOfNums (word_Put.nums n)).size = 8 := by rw [strOf_size]; rfl
theorem add_put {n d : Int} (h0 : 0 ≤ n) (h1 : n ≤ 18446744073709551615) : add (strOfNums (word_Put.nums n)) true d = strOfNums (word_Put.nums (IntKind.u64.wrap (n + d))) := by
  unfold add
  rw [if_pos rfl, if_pos (put_size n), num_put h0 h1]
theorem WordAdds : catchmentlaw03_WordAdds.Pure := by
  intro s is a b hs h1 h2
  have ha : 0 ≤ a ∧ a ≤ 18446744073709551615 := by simpa [Lit.wf, IntKind.min, IntKind.max, IntKind.signed, IntKind.bits] using h1
  have hb : 0 ≤ b ∧ b ≤ 18446744073709551615 := by simpa [Lit.wf, IntKind.min, IntKind.max, IntKind.signed, IntKind.bits] using h2
  obtain ⟨K, hK⟩ : ∃ K : Nat, 20 ≤ K := ⟨20, Nat.le_refl _⟩
  refine ⟨K, ?_⟩
  unfold catchmentlaw03_WordAdds.f
  rw [live_ge hK, add_f K (by omega), Option.bind_some, if_pos rfl, Option.bind_some, add_f K (by omega), Option.bind_some, add_f K (by omega), Option.bind_some]
  have key : add (add s is a) true b = add s is (IntKind.u64.wrap (a + b)) := by
    have e : add s is a = (if is = true then (if s.size = 8 then strOfNums (word_Put.nums (IntKind.u64.wrap (num s.toList + a))) else s) else strOfNums (word_Put.nums a)) := rfl
    cases is
    · rw [e, if_neg (by decide), add_put ha.1 ha.2]
      rfl
    · rw [e, if_pos rfl]
      by_cases h : s.size = 8
      · have hr := wrap_range (num s.toList + a)
        rw [if_pos h, add_put hr.1 hr.2]
        unfold add
        rw [if_pos rfl, if_pos h]
        have : IntKind.u64.wrap (IntKind.u64.wrap (num s.toList + a) + b) = IntKind.u64.wrap (num s.toList + IntKind.u64.wrap (a + b)) := by
          simp only [wrap_u64]
          omega
        rw [this]
      · rw [if_neg h]
        unfold add
        rw [if_pos rfl, if_pos rfl, if_neg h, if_neg h]
  rw [key]
  simp
end Go.Proofs.Ytgbnhfppnglamaa.Pure
