/- What the functions TakeText, TakeTexts, Same of the packages word and catchmentref03 answer. No condition but the sizes that a Go value has. -/
import Derived.Test.YtgbnhfppnglamaaQ2x17
import Derived.Test.YtgbnhfppnglamaaQ2x18
import Derived.Test.YtgbnhfppnglamaaQ2x19
import Derived.Test.YtgbnhfppnglamaaNumSpec
set_option linter.unusedVariables false
set_option linter.unusedSimpArgs false
namespace Go.Proofs.Ytgbnhfppnglamaa.TextSpec
open Go.RowKit Go.Proofs.Ytgbnhfppnglamaa.Q2 Go.Proofs.Ytgbnhfppnglamaa.WordSpec Go.Proofs.Ytgbnhfppnglamaa.NumSpec Go.Proofs.YtgbnhfppnglamaaW.PrintWords Go.Proofs.YtgbnhfppnglamaaW.PrintLast Go.Proofs.YtgbnhfppnglamaaW.PrintMore Go.Proofs.YtgbnhfppnglamaaW.Mine Go.Proofs.YtgbnhfppnglamaaW.Ord
theorem empty_size (n : Nat) : (⟨#[]⟩ : ByteArray).size ≤ n := Nat.zero_le n
theorem fin_size (s : ByteArray) (i : Nat) : (fin s i).2.1.size ≤ s.size := by
  unfold fin
  split
  · exact empty_size _
  · split
    · exact empty_size _
    · simp
theorem tn_size (s : ByteArray) : ∀ (d i : Nat), (tn s d i).2.1.size ≤ s.size
  | 0, i => empty_size _
  | d + 1, i => by
    rw [tn]
    split
    · exact empty_size _
    · split
      · exact fin_size s i
      · exact tn_size s d (i + 1)
/-- what becomes of a number and what is behind it -/
def cut (t : Int × ByteArray × Int) (m : Int) : ByteArray × ByteArray × Int :=
  if t.2.2 = 0 then (if t.1 > m then (⟨#[]⟩, ⟨#[]⟩, 4) else if t.1 > (t.2.1.size : Int) then (⟨#[]⟩, ⟨#[]⟩, 5) else (t.2.1.extract 0 t.1.toNat, t.2.1.extract t.1.toNat t.2.1.size, 0)) else (⟨#[]⟩, ⟨#[]⟩, t.2.2)
def tt (s : ByteArray) (m : Int) : ByteArray × ByteArray × Int := cut (tn s 5 0) m
theorem cut_size (t : Int × ByteArray × Int) (m : Int) : (cut t m).2.1.size ≤ t.2.1.size := by
  unfold cut
  split
  · split
    · exact empty_size _
    · split
      · exact empty_size _
      · simp
  · exact empty_size _
theorem takeText_f (k : Nat) (hk : 6 ≤ k) (s : ByteArray) (hs : s.size < 9223372036854775807) (m : Int) : word_TakeText.f k s m = some (tt s m) := by
  unfold word_TakeText.f tt
  rw [takeNum_f k hk s hs, Option.bind_some]
  have h0 := tn_nonneg s 5 0
  generalize tn s 5 0 = t at h0
  unfold cut
  by_cases h1 : t.2.2 = 0
  · rw [if_pos h1, if_pos h1]
    by_cases h2 : t.1 > m
    · rw [if_pos h2, if_pos h2]
    · rw [if_neg h2, if_neg h2]
      by_cases h3 : t.1 > (t.2.1.size : Int)
      · rw [if_pos h3, if_pos h3]
      · rw [if_neg h3, if_neg h3, if_pos h0, if_pos (by omega)]
  · rw [if_neg h1, if_neg h1]
theorem refTakeText_f (k : Nat) (hk : 46 ≤ k) (s : ByteArray) (hs : s.size < 9223372036854775807) (m : Int) : catchmentref03_TakeText.f k s m = some (tt s m) := by
  unfold catchmentref03_TakeText.f tt
  rw [refTakeNum_f k hk s hs, Option.bind_some]
  have h0 := tn_nonneg s 5 0
  generalize tn s 5 0 = t at h0
  unfold cut
  by_cases h1 : t.2.2 = 0
  · rw [if_pos h1, if_pos h1]
    by_cases h2 : t.1 > m
    · rw [if_pos h2, if_pos h2]
    · rw [if_neg h2, if_neg h2]
      by_cases h3 : t.1 > (t.2.1.size : Int)
      · rw [if_pos h3, if_pos h3]
      · rw [if_neg h3, if_neg h3, if_pos h0, if_pos (by omega)]
  · rw [if_neg h1, if_neg h1]
theorem tt_size (s : ByteArray) (m : Int) : (tt s m).2.1.size ≤ s.size := Nat.le_trans (cut_size _ _) (tn_size s 5 0)
/-- d texts, taken one behind the other -/
def tts (m : Int) : Nat → ByteArray → List ByteArray → List ByteArray × ByteArray × Int
  | 0, s, acc => (acc, s, 0)
  | d + 1, s, acc => if (tt s m).2.2 = 0 then tts m d (tt s m).2.1 (acc ++ [(tt s m).1]) else ([], ⟨#[]⟩, (tt s m).2.2)
theorem takeTexts_loop (m n : Int) (hn : n ≤ 1000000) : ∀ (d k : Nat) (s : ByteArray) (acc : List ByteArray), s.size < 9223372036854775807 → d = (n - acc.length).toNat → d + 50 < k → word_TakeTexts.l0 k s n m acc = some (tts m d s acc)
  | d, 0, s, acc, _, _, h => absurd h (by omega)
  | 0, k + 1, s, acc, hs, hd, hk => by
    rw [word_TakeTexts.l0, if_neg (by omega), tts]
  | d + 1, k + 1, s, acc, hs, hd, hk => by
    have hz := tt_size s m
    rw [word_TakeTexts.l0, if_pos (by omega), takeText_f k (by omega) s hs, Option.bind_some, tts]
    by_cases h : (tt s m).2.2 = 0
    · rw [if_pos h, if_pos h, if_pos (by omega), takeTexts_loop m n hn d k _ _ (by omega) (by simp; omega) (by omega)]
    · rw [if_neg h, if_neg h]
theorem refTakeTexts_loop (m n : Int) (hn : n ≤ 1000000) : ∀ (d k : Nat) (s : ByteArray) (acc : List ByteArray), s.size < 9223372036854775807 → d = (n - acc.length).toNat → d + 50 < k → catchmentref03_TakeTexts.l0 k s n m acc (acc.length : Int) = some (tts m d s acc)
  | d, 0, s, acc, _, _, h => absurd h (by omega)
  | 0, k + 1, s, acc, hs, hd, hk => by
    rw [catchmentref03_TakeTexts.l0, if_neg (by omega), tts]
  | d + 1, k + 1, s, acc, hs, hd, hk => by
    have hz := tt_size s m
    have e1 : wrap64 ((acc.length : Int) + 1) = ((acc ++ [(tt s m).1]).length : Int) := by rw [wrap64_id (by omega) (by omega)]; simp
    rw [catchmentref03_TakeTexts.l0, if_pos (by omega), refTakeText_f k (by omega) s hs, Option.bind_some, tts]
    by_cases h : (tt s m).2.2 = 0
    · rw [if_pos h, if_pos h, if_pos (by omega), e1, refTakeTexts_loop m n hn d k _ _ (by omega) (by simp; omega) (by omega)]
    · rw [if_neg h, if_neg h]
theorem takeTexts_f (k : Nat) (s : ByteArray) (n m : Int) (hn : n ≤ 1000000) (hs : s.size < 9223372036854775807) (hk : n.toNat + 50 < k) : word_TakeTexts.f k s n m = some (tts m n.toNat s []) := by
  unfold word_TakeTexts.f
  exact takeTexts_loop m n hn _ k s [] hs (by simp) hk
theorem refTakeTexts_f (k : Nat) (s : ByteArray) (n m : Int) (hn : n ≤ 1000000) (hs : s.size < 9223372036854775807) (hk : n.toNat + 50 < k) : catchmentref03_TakeTexts.f k s n m = some (tts m n.toNat s []) := by
  unfold catchmentref03_TakeTexts.f
  exact refTakeTexts_loop m n hn _ k s [] hs (by simp) hk
theorem tts_length (m : Int) : ∀ (d : Nat) (s : ByteArray) (acc : List ByteArray), (tts m d s acc).1.length ≤ d + acc.length
  | 0, s, acc => by simp [tts]
  | d + 1, s, acc => by
    rw [tts]
    split
    · have := tts_length m d (tt s m).2.1 (acc ++ [(tt s m).1])
      simp at this
      omega
    · simp
theorem same_loop (l : List ByteArray) (hl : l.length < 1000000000) : ∀ (d i k : Nat), i + d = l.length → d < k → catchmentref03_Same.l0 k l l (i : Int) = some true
  | d, i, 0, _, h => absurd h (by omega)
  | 0, i, k + 1, hd, hk => by rw [catchmentref03_Same.l0, if_neg (by omega)]
  | d + 1, i, k + 1, hd, hk => by
    have e1 : wrap64 ((i : Int) + 1) = ((i + 1 : Nat) : Int) := by rw [wrap64_id (by omega) (by omega)]; omega
    rw [catchmentref03_Same.l0, if_pos (by omega), if_pos (by omega), if_pos (by omega), if_pos rfl, e1]
    exact same_loop l hl d (i + 1) k (by omega) (by omega)
theorem same_f (k : Nat) (l : List ByteArray) (hl : l.length < 1000000000) (hk : l.length < k) : catchmentref03_Same.f k l l = some true := by
  unfold catchmentref03_Same.f
  rw [if_pos rfl]
  exact same_loop l hl l.length 0 k (by omega) hk
end Go.Proofs.Ytgbnhfppnglamaa.TextSpec
