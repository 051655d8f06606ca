/- What catchmentref13.Spans and catchmentlaw13.spans answer: the same parts. No condition but the sizes that a Go value has. -/
import Derived.Test.YtgbnhfppnglamaaQ5x2
import Derived.Test.YtgbnhfppnglamaaQ5SPivotSpec
set_option linter.unusedVariables false
set_option linter.unusedSimpArgs false
namespace Go.Proofs.Ytgbnhfppnglamaa.PivotSpec
open Go.RowKit Go.Proofs.Ytgbnhfppnglamaa.Q5 Go.Proofs.YtgbnhfppnglamaaW.PrintWords Go.Proofs.YtgbnhfppnglamaaW.PrintLast Go.Proofs.YtgbnhfppnglamaaW.PrintMore Go.Proofs.YtgbnhfppnglamaaW.Mine Go.Proofs.YtgbnhfppnglamaaW.Ord
/-- the first m parts -/
def parts (p : List ByteArray) (a b : ByteArray) (m : Nat) : List S80 := (pivot_All.upto (pivot_All.at p a b) m).map (fun x => (⟨x.2.1, x.2.2⟩ : S80))
theorem parts_succ (p : List ByteArray) (a b : ByteArray) (m : Nat) : parts p a b (m + 1) = parts p a b m ++ [(⟨(pivot_All.part p a b m).1, (pivot_All.part p a b m).2⟩ : S80)] := by
  unfold parts
  rw [pivot_All.upto_succ, List.map_append]
  rfl
theorem parts_length (p : List ByteArray) (a b : ByteArray) (m : Nat) : (parts p a b m).length = m := by
  unfold parts
  rw [List.length_map, pivot_All.upto_length]
theorem st_upto (p : List ByteArray) (a b : ByteArray) : ∀ m : Nat, catchmentlaw13_spans.st (pivot_All.upto (pivot_All.at p a b) m) = (true, m)
  | 0 => rfl
  | m + 1 => by
    rw [pivot_All.upto_succ, catchmentlaw13_spans.st_snoc, st_upto p a b m]
    simp [catchmentlaw13_spans.step, pivot_All.at]
theorem spans_f (p : List ByteArray) (hp : p.length < 1000000) (a b : ByteArray) (k : Nat) (hk : p.length + 1 < k) : catchmentlaw13_spans.f k p a b = some (if rt p a.toList b.toList = true then parts p a b (p.length + 1) else [], true) := by
  unfold catchmentlaw13_spans.f
  rw [if_pos hp, right_f p hp k hk, Option.bind_some, st_upto]
  cases rt p a.toList b.toList <;> rfl
end Go.Proofs.Ytgbnhfppnglamaa.PivotSpec
