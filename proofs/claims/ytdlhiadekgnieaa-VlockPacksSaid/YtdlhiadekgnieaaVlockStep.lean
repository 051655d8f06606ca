/- What one deed makes of a word, as a plain function. No condition. -/
import Derived.Test.YtdlhiadekgnieaaQ1x50
import Derived.Test.YtdlhiadekgnieaaQ1x54
import Derived.Test.YtdlhiadekgnieaaVlockSpec
set_option linter.unusedVariables false
set_option linter.unusedSimpArgs false
namespace Go.Proofs.Ytdlhiadekgnieaa.VlockSpec
open Go.RowKit Go.Proofs.Ytdlhiadekgnieaa.Q1 Go.Proofs.YtdlhiadekgnieaaW.PrintWords Go.Proofs.YtdlhiadekgnieaaW.PrintLast Go.Proofs.YtdlhiadekgnieaaW.PrintMore Go.Proofs.YtdlhiadekgnieaaW.Mine Go.Proofs.YtdlhiadekgnieaaW.Ord
/-- a deed: the word, and whether it was done -/
def stp (v o : Int) (g : Bool) (d who : Int) : Int × Int × Bool × Bool :=
  if d = 0 then (if 1 ≤ who ∧ who ≤ 64 ∧ g = false ∧ o = 0 then (v, who, false, true) else (v, o, g, false))
  else if d = 1 then (if 1 ≤ who ∧ o = who then (v, 0, g, true) else (v, o, g, false))
  else if d = 2 then (if 1 ≤ who ∧ o = who ∧ v < 1099511627776 then (wrap64 (v + 1), 0, g, true) else (v, o, g, false))
  else if d = 3 then (if 1 ≤ who ∧ o = who ∧ v < 1099511627776 then (wrap64 (v + 1), 0, true, true) else (v, o, g, false))
  else if d = 4 then (if g = true ∧ v < 1099511627776 then (wrap64 (v + 1), 0, false, true) else (v, o, g, false))
  else (v, o, g, false)
theorem step_f (k : Nat) (v o : Int) (g : Bool) (d who : Int) : catchmentlaw07_step.f (k + 1) v o g d who = some (stp v o g d who) := by
  unfold catchmentlaw07_step.f stp
  rw [try_f]
  by_cases d0 : d = 0
  · rw [if_pos d0, if_pos d0]
    have ht : ∀ x, tak v o g who = x → ((some (tak v o g who)).bind fun b : Int × Int × Bool × Int => if b.2.2.2 = 0 then some (b.1, b.2.1, b.2.2.1, true) else some (v, o, g, false)) = (if x.2.2.2 = 0 then some (x.1, x.2.1, x.2.2.1, true) else some (v, o, g, false)) := by
      rintro x rfl
      rfl
    by_cases h1 : who < 1
    · rw [ht (0, 0, false, 2) (by unfold tak; exact if_pos (Or.inl h1)), if_neg (by omega : ¬ (1 ≤ who ∧ who ≤ 64 ∧ g = false ∧ o = 0))]; rfl
    · by_cases h2 : who > 64
      · rw [ht (0, 0, false, 2) (by unfold tak; exact if_pos (Or.inr h2)), if_neg (by omega : ¬ (1 ≤ who ∧ who ≤ 64 ∧ g = false ∧ o = 0))]; rfl
      · have h12 : ¬ (who < 1 ∨ who > 64) := by omega
        cases g
        · by_cases h3 : o = 0
          · rw [ht (v, who, false, 0) (by unfold tak; rw [if_neg h12, if_neg (by decide), if_pos h3]), if_pos (⟨by omega, by omega, rfl, h3⟩ : 1 ≤ who ∧ who ≤ 64 ∧ false = false ∧ o = 0)]; rfl
          · rw [ht (0, 0, false, 12) (by unfold tak; rw [if_neg h12, if_neg (by decide), if_neg h3]), if_neg (fun h => h3 h.2.2.2 : ¬ (1 ≤ who ∧ who ≤ 64 ∧ false = false ∧ o = 0))]; rfl
        · rw [ht (0, 0, false, 14) (by unfold tak; rw [if_neg h12, if_pos rfl]), if_neg (fun h => absurd h.2.2.1 (by decide) : ¬ (1 ≤ who ∧ who ≤ 64 ∧ true = false ∧ o = 0))]; rfl
  rw [if_neg d0, if_neg d0]
  by_cases d1 : d = 1
  · rw [if_pos d1, if_pos d1]
    unfold vlock_Free.f
    by_cases h1 : who < 1
    · rw [if_pos h1, if_neg (by omega)]; rfl
    · rw [if_neg h1]
      by_cases h2 : o = who
      · rw [if_pos h2, if_pos ⟨by omega, h2⟩]; rfl
      · rw [if_neg h2, if_neg (fun h => h2 h.2)]; rfl
  rw [if_neg d1, if_neg d1]
  by_cases d2 : d = 2
  · rw [if_pos d2, if_pos d2]
    unfold vlock_Bump.f
    by_cases h1 : who < 1
    · rw [if_pos h1, if_neg (by omega)]; rfl
    · rw [if_neg h1]
      by_cases h2 : o = who
      · rw [if_pos h2]
        by_cases h3 : v ≥ 1099511627776
        · rw [if_pos h3, if_neg (by omega)]; rfl
        · rw [if_neg h3, if_pos ⟨by omega, h2, by omega⟩]; rfl
      · rw [if_neg h2, if_neg (fun h => h2 h.2.1)]; rfl
  rw [if_neg d2, if_neg d2]
  by_cases d3 : d = 3
  · rw [if_pos d3, if_pos d3]
    unfold vlock_Retire.f
    by_cases h1 : who < 1
    · rw [if_pos h1, if_neg (by omega)]; rfl
    · rw [if_neg h1]
      by_cases h2 : o = who
      · rw [if_pos h2]
        by_cases h3 : v ≥ 1099511627776
        · rw [if_pos h3, if_neg (by omega)]; rfl
        · rw [if_neg h3, if_pos ⟨by omega, h2, by omega⟩]; rfl
      · rw [if_neg h2, if_neg (fun h => h2 h.2.1)]; rfl
  rw [if_neg d3, if_neg d3]
  by_cases d4 : d = 4
  · rw [if_pos d4, if_pos d4]
    unfold vlock_Renew.f
    cases g
    · rw [if_neg (by decide), if_neg (fun h => absurd h.1 (by decide))]; rfl
    · rw [if_pos rfl]
      by_cases h3 : v ≥ 1099511627776
      · rw [if_pos h3, if_neg (by omega)]; rfl
      · rw [if_neg h3, if_pos ⟨rfl, by omega⟩]; rfl
  rw [if_neg d4, if_neg d4]
/-- a word that may be -/
def Rt (v o : Int) (g : Bool) : Prop := 0 ≤ v ∧ v ≤ 1099511627776 ∧ 0 ≤ o ∧ o ≤ 64 ∧ (g = true → o = 0)
theorem right_f {v o : Int} {g : Bool} (h : Rt v o g) : vlock_Right.f v o g = some true := by
  obtain ⟨h1, h2, h3, h4, h5⟩ := h
  unfold vlock_Right.f
  rw [if_pos h1, if_pos h2, if_pos h3, if_pos h4]
  cases g
  · rfl
  · rw [if_pos rfl, h5 rfl]; rfl
theorem wrap_next {v : Int} (h : 0 ≤ v) (h2 : v < 1099511627776) : wrap64 (v + 1) = v + 1 := by unfold wrap64; omega
/-- what a deed leaves is a word that may be; and what it says of the version, of the owner, of whether it is gone -/
theorem stp_right {v o : Int} {g : Bool} (d who : Int) (h : Rt v o g) : Rt (stp v o g d who).1 (stp v o g d who).2.1 (stp v o g d who).2.2.1 ∧
    ((stp v o g d who).2.2.2 = false → (stp v o g d who).1 = v ∧ (stp v o g d who).2.1 = o ∧ (stp v o g d who).2.2.1 = g) ∧
    ((stp v o g d who).2.2.2 = true → 0 ≤ d ∧ d ≤ 4 ∧ (d = 0 → o = 0 ∧ (stp v o g d who).2.1 = who) ∧ (1 ≤ d → d < 4 → o = who ∧ (stp v o g d who).2.1 = 0) ∧ (d = 4 → (stp v o g d who).2.1 = o) ∧
      (d < 2 → (stp v o g d who).1 = v ∧ (stp v o g d who).2.2.1 = g) ∧ (2 ≤ d → (stp v o g d who).1 = v + 1)) := by
  obtain ⟨h1, h2, h3, h4, h5⟩ := h
  unfold stp
  by_cases d0 : d = 0
  · rw [if_pos d0]
    split
    · rename_i h6
      exact ⟨⟨h1, h2, by show 0 ≤ who; omega, by show who ≤ 64; omega, (fun h => by cases h)⟩, (fun h => by cases h), fun _ => ⟨by omega, by omega, fun _ => ⟨h6.2.2.2, rfl⟩, (fun h => by omega), (fun h => by omega), fun _ => ⟨rfl, h6.2.2.1.symm⟩, (fun h => by omega)⟩⟩
    · exact ⟨⟨h1, h2, h3, h4, h5⟩, fun _ => ⟨rfl, rfl, rfl⟩, (fun h => by cases h)⟩
  rw [if_neg d0]
  by_cases d1 : d = 1
  · rw [if_pos d1]
    split
    · rename_i h6
      exact ⟨⟨h1, h2, by show (0 : Int) ≤ 0; omega, by show (0 : Int) ≤ 64; omega, fun _ => rfl⟩, (fun h => by cases h), fun _ => ⟨by omega, by omega, (fun h => by omega), fun _ _ => ⟨h6.2, rfl⟩, (fun h => by omega), fun _ => ⟨rfl, rfl⟩, (fun h => by omega)⟩⟩
    · exact ⟨⟨h1, h2, h3, h4, h5⟩, fun _ => ⟨rfl, rfl, rfl⟩, (fun h => by cases h)⟩
  rw [if_neg d1]
  by_cases d2 : d = 2
  · rw [if_pos d2]
    split
    · rename_i h6
      rw [wrap_next h1 h6.2.2]
      exact ⟨⟨by show 0 ≤ v + 1; omega, by show v + 1 ≤ 1099511627776; omega, by show (0 : Int) ≤ 0; omega, by show (0 : Int) ≤ 64; omega, fun _ => rfl⟩, (fun h => by cases h), fun _ => ⟨by omega, by omega, (fun h => by omega), fun _ _ => ⟨h6.2.1, rfl⟩, (fun h => by omega), (fun h => by omega), fun _ => rfl⟩⟩
    · exact ⟨⟨h1, h2, h3, h4, h5⟩, fun _ => ⟨rfl, rfl, rfl⟩, (fun h => by cases h)⟩
  rw [if_neg d2]
  by_cases d3 : d = 3
  · rw [if_pos d3]
    split
    · rename_i h6
      rw [wrap_next h1 h6.2.2]
      exact ⟨⟨by show 0 ≤ v + 1; omega, by show v + 1 ≤ 1099511627776; omega, by show (0 : Int) ≤ 0; omega, by show (0 : Int) ≤ 64; omega, fun _ => rfl⟩, (fun h => by cases h), fun _ => ⟨by omega, by omega, (fun h => by omega), fun _ _ => ⟨h6.2.1, rfl⟩, (fun h => by omega), (fun h => by omega), fun _ => rfl⟩⟩
    · exact ⟨⟨h1, h2, h3, h4, h5⟩, fun _ => ⟨rfl, rfl, rfl⟩, (fun h => by cases h)⟩
  rw [if_neg d3]
  by_cases d4 : d = 4
  · rw [if_pos d4]
    split
    · rename_i h6
      rw [wrap_next h1 h6.2]
      have h7 := h5 h6.1
      exact ⟨⟨by show 0 ≤ v + 1; omega, by show v + 1 ≤ 1099511627776; omega, by show (0 : Int) ≤ 0; omega, by show (0 : Int) ≤ 64; omega, fun _ => rfl⟩, (fun h => by cases h), fun _ => ⟨by omega, by omega, (fun h => by omega), (fun h h' => by omega), fun _ => h7.symm, (fun h => by omega), fun _ => rfl⟩⟩
    · exact ⟨⟨h1, h2, h3, h4, h5⟩, fun _ => ⟨rfl, rfl, rfl⟩, (fun h => by cases h)⟩
  rw [if_neg d4]
  exact ⟨⟨h1, h2, h3, h4, h5⟩, fun _ => ⟨rfl, rfl, rfl⟩, (fun h => by cases h)⟩
theorem live_ge {k : Nat} (h : 10 ≤ k) : catchmentlaw07_live.f k = some true := by
  obtain ⟨m, rfl⟩ : ∃ m, k = m + 10 := ⟨k - 10, by omega⟩
  exact live_f m
theorem step_ge {k : Nat} (h : 1 ≤ k) (v o : Int) (g : Bool) (d who : Int) : catchmentlaw07_step.f k v o g d who = some (stp v o g d who) := by
  obtain ⟨m, rfl⟩ : ∃ m, k = m + 1 := ⟨k - 1, by omega⟩
  exact step_f m _ _ _ _ _
end Go.Proofs.Ytdlhiadekgnieaa.VlockSpec
