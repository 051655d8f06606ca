/- What the functions TakeText, TakeTexts, Same of the packages word and catchmentref03 answer. No condition but the sizes that a Go value has. -/
import Derived.Test.YtnklnjghecmihaaH6x8
import Derived.Test.YtnklnjghecmihaaH6x32
import Derived.Test.YtnklnjghecmihaaH6SNumSpec
set_option linter.unusedVariables false
set_option linter.unusedSimpArgs false
namespace Go.Proofs.Ytnklnjghecmihaa.TextSpec
open Go.RowKit Go.Proofs.Ytnklnjghecmihaa.H6 Go.Proofs.Ytnklnjghecmihaa.WordSpec Go.Proofs.Ytnklnjghecmihaa.NumSpec Go.Proofs.YtnklnjghecmihaaW.PrintWords Go.Proofs.YtnklnjghecmihaaW.PrintLast Go.Proofs.YtnklnjghecmihaaW.PrintMore Go.Proofs.YtnklnjghecmihaaW.Mine Go.Proofs.YtnklnjghecmihaaW.Ord
theorem empty_size (n : Nat) : (⟨#[]⟩ : ByteArray).size ≤ n := Nat.zero_le n
theorem fin_size (s : ByteArray) (i : Nat) : (fin s i).2.1.size ≤ s.size := by
  unfold fin
  split
  · exact empty_size _
  · split
    · exact empty_size _
    · simp
theorem tn_size (s : ByteArray) : ∀ (d i : Nat), (tn s d i).2.1.size ≤ s.size
  | 0, i => empty_size _
  | d + 1, i => by
    rw [tn]
    split
    · exact empty_size _
    · split
      · exact fin_size s i
      · exact tn_size s d (i + 1)
/-- what becomes of a number and what is behind it -/
def cut (t : Int × ByteArray × Int) (m : Int) : ByteArray × ByteArray × Int :=
  if t.2.2 = 0 then (if t.1 > m then (⟨#[]⟩, ⟨#[]⟩, 4) else if t.1 > (t.2.1.size : Int) then (⟨#[]⟩, ⟨#[]⟩, 5) else (t.2.1.extract 0 t.1.toNat, t.2.1.extract t.1.toNat t.2.1.size, 0)) else (⟨#[]⟩, ⟨#[]⟩, t.2.2)
def tt (s : ByteArray) (m : Int) : ByteArray × ByteArray × Int := cut (tn s 5 0) m
theorem cut_size (t : Int × ByteArray × Int) (m : Int) : (cut t m).2.1.size ≤ t.2.1.size := by
  unfold cut
  split
  · split
    · exact empty_size _
    · split
      · exact empty_size _
      · simp
  · exact empty_size _
theorem takeText_f (k : Nat) (hk : 6 ≤ k) (s : ByteArray) (hs : s.size < 9223372036854775807) (m : Int) : word_TakeText.f k s m = some (tt s m) := by
  unfold word_TakeText.f tt
  rw [takeNum_f k hk s hs, Option.bind_some]
  have h0 := tn_nonneg s 5 0
  generalize tn s 5 0 = t at h0
  unfold cut
  by_cases h1 : t.2.2 = 0
  · rw [if_pos h1, if_pos h1]
    by_cases h2 : t.1 > m
    · rw [if_pos h2, if_pos h2]
    · rw [if_neg h2, if_neg h2]
      by_cases h3 : t.1 > (t.2.1.size : Int)
      · rw [if_pos h3, if_pos h3]
      · rw [if_neg h3, if_neg h3, if_pos h0, if_pos (by omega)]
  · rw [if_neg h1, if_neg h1]
theorem refTakeText_f (k : Nat) (hk : 60 ≤ k) (s : ByteArray) (hs : s.size < 9223372036854775807) (m : Int) : catchmentref03_TakeText.f k s m = some (tt s m) := by
  unfold catchmentref03_TakeText.f tt
  rw [refTakeNum_f k hk s hs, Option.bind_some]
  have h0 := tn_nonneg s 5 0
  generalize tn s 5 0 = t at h0
  unfold cut
  by_cases h1 : t.2.2 = 0
  · rw [if_pos h1, if_pos h1]
    by_cases h2 : t.1 > m
    · rw [if_pos h2, if_pos h2]
    · rw [if_neg h2, if_neg h2]
      by_cases h3 : t.1 > (t.2.1.size : Int)
      · rw [if_pos h3, if_pos h3]
      · rw [if_neg h3, if_neg h3, if_pos h0, if_pos (by omega)]
  · rw [if_neg h1, if_neg h1]
theorem tt_size (s : ByteArray) (m : Int) : (tt s m).2.1.size ≤ s.size := Nat.le_trans (cut_size _ _) (tn_size s 5 0)
end Go.Proofs.Ytnklnjghecmihaa.TextSpec
