/- What catchmentref13.Spans and catchmentlaw13.spans answer: the same parts. No condition but the sizes that a Go value has. -/
import Derived.Test.YtgbnhfppnglamaaQ3x6
import Derived.Test.YtgbnhfppnglamaaQ3SPivotSpans
set_option linter.unusedVariables false
set_option linter.unusedSimpArgs false
namespace Go.Proofs.Ytgbnhfppnglamaa.PivotSpec
open Go.RowKit Go.Proofs.Ytgbnhfppnglamaa.Q3 Go.Proofs.YtgbnhfppnglamaaW.PrintWords Go.Proofs.YtgbnhfppnglamaaW.PrintLast Go.Proofs.YtgbnhfppnglamaaW.PrintMore Go.Proofs.YtgbnhfppnglamaaW.Mine Go.Proofs.YtgbnhfppnglamaaW.Ord
theorem spans_loop (p : List ByteArray) (hp : p.length < 1000000) (a b : ByteArray) : ∀ (d i k : Nat), d = p.length - i → i ≤ p.length → d < k → catchmentref13_Spans.l0 k p (parts p a b i) (pivot_All.part p a b i).1 (i : Int) a b = some (parts p a b (p.length + 1))
  | d, i, 0, _, _, h => absurd h (by omega)
  | 0, i, k + 1, hd, hi, hk => by
    have e : i = p.length := by omega
    have e2 : (pivot_All.part p a b p.length).2 = b := by simp [pivot_All.part]
    subst e
    rw [catchmentref13_Spans.l0, if_neg (by omega), if_pos (by rw [parts_length]; omega), parts_succ, e2]
  | d + 1, i, k + 1, hd, hi, hk => by
    have e1 : wrap64 ((i : Int) + 1) = ((i + 1 : Nat) : Int) := by rw [wrap64_id (by omega) (by omega)]; omega
    have e2 : (pivot_All.part p a b i).2 = rdOf ByteArray.empty p (i : Int) := by
      show (if i < p.length then rdOf ByteArray.empty p (i : Int) else b) = _
      rw [if_pos (by omega)]
    have e3 : (pivot_All.part p a b (i + 1)).1 = rdOf ByteArray.empty p (i : Int) := by
      show (if i + 1 = 0 then a else rdOf ByteArray.empty p (((i + 1 : Nat) : Int) - 1)) = _
      rw [if_neg (by omega)]
      show rdOf ByteArray.empty p (((i + 1 : Nat) : Int) - 1) = _
      rw [show ((i + 1 : Nat) : Int) - 1 = (i : Int) by omega]
    have ih := spans_loop p hp a b d (i + 1) k (by omega) (by omega) (by omega)
    rw [parts_succ, e2, e3] at ih
    rw [catchmentref13_Spans.l0, if_pos (by omega), if_pos (by omega), if_pos (by rw [parts_length]; omega), e1]
    exact ih
theorem refSpans_f (p : List ByteArray) (hp : p.length < 1000000) (a b : ByteArray) (k : Nat) (hk : 2 * p.length + 10 < k) : catchmentref13_Spans.f k p a b = some (if rt p a.toList b.toList = true then parts p a b (p.length + 1) else []) := by
  unfold catchmentref13_Spans.f
  rw [Option.bind_some, refRight_f p hp k (by omega), Option.bind_some]
  have h := spans_loop p hp a b p.length 0 k (by omega) (by omega) (by omega)
  cases rt p a.toList b.toList with
  | false => rfl
  | true => exact h
end Go.Proofs.Ytgbnhfppnglamaa.PivotSpec
