/- For every word and every session the law VlockDoes answers true: no condition beyond what a Go value of these types can be. -/
import Derived.Test.YtdlhiadekgnieaaQ1x59
import Derived.Test.YtdlhiadekgnieaaQ1x52
import Derived.Test.YtdlhiadekgnieaaQ1x56
import Derived.Test.YtdlhiadekgnieaaVlockSpec
set_option linter.unusedVariables false
set_option linter.unusedSimpArgs false
namespace Go.Proofs.Ytdlhiadekgnieaa.Pure
open Go.RowKit Go.Proofs.Ytdlhiadekgnieaa.Q1 Go.Proofs.Ytdlhiadekgnieaa.VlockSpec Go.Proofs.YtdlhiadekgnieaaW.PrintWords Go.Proofs.YtdlhiadekgnieaaW.PrintLast Go.Proofs.YtdlhiadekgnieaaW.Ord
theorem refTry_f (k : Nat) (v o : Int) (g : Bool) (who : Int) : catchmentref07_Try.f (k + 1) v o g who = some (tak v o g who) := by
  unfold catchmentref07_Try.f tak
  by_cases h1 : who < 1
  · simp [h1, catchmentref07_Try.j0]
  · by_cases h2 : who > 64
    · simp [h1, h2, catchmentref07_Try.j0]
    · cases g
      · by_cases h3 : o = 0 <;> simp [h1, h2, h3, catchmentref07_Try.j0]
      · simp [h1, h2, catchmentref07_Try.j0]
theorem refBump_f (k : Nat) (v o : Int) (g : Bool) (who : Int) : catchmentref07_Bump.f (k + 1) v o g who = vlock_Bump.f v o g who := by
  unfold catchmentref07_Bump.f vlock_Bump.f
  by_cases h1 : who < 1
  · simp [h1, catchmentref07_Bump.j0]
  · by_cases h2 : o = who
    · subst h2
      by_cases h3 : v ≥ 1099511627776 <;> simp [h1, h3, catchmentref07_Bump.j0]
    · have h3 : ¬ who = o := fun h => h2 h.symm
      simp [h1, h2, h3, catchmentref07_Bump.j0]
theorem free_eq (v o : Int) (g : Bool) (who : Int) : catchmentref07_Free.f v o g who = vlock_Free.f v o g who := by
  unfold catchmentref07_Free.f vlock_Free.f
  by_cases h1 : who < 1
  · simp [h1]
  · by_cases h2 : o = who
    · subst h2; simp [h1]
    · have h3 : ¬ who = o := fun h => h2 h.symm
      simp [h1, h2, h3]
theorem right_eq (v o : Int) (g : Bool) : ∃ b, catchmentref07_Right.f v o g = some b ∧ vlock_Right.f v o g = some b := by
  unfold catchmentref07_Right.f vlock_Right.f
  have e1 : (v ≥ 0) = ¬ (v < 0) := by simp
  have e2 : (v ≤ 1099511627776) = ¬ (v > 1099511627776) := by simp
  have e3 : (o ≥ 0) = ¬ (o < 0) := by simp
  have e4 : (o ≤ 64) = ¬ (o > 64) := by simp
  simp only [e1, e2, e3, e4]
  by_cases h1 : v < 0
  · exact ⟨false, by rw [if_pos h1], by rw [if_neg (fun h => h h1)]⟩
  · by_cases h2 : v > 1099511627776
    · exact ⟨false, by rw [if_neg h1, if_pos h2], by rw [if_pos h1, if_neg (fun h => h h2)]⟩
    · by_cases h3 : o < 0
      · exact ⟨false, by rw [if_neg h1, if_neg h2, if_pos h3], by rw [if_pos h1, if_pos h2, if_neg (fun h => h h3)]⟩
      · by_cases h4 : o > 64
        · exact ⟨false, by rw [if_neg h1, if_neg h2, if_neg h3, if_pos h4], by rw [if_pos h1, if_pos h2, if_pos h3, if_neg (fun h => h h4)]⟩
        · rw [if_neg h1, if_neg h2, if_neg h3, if_neg h4, if_pos h1, if_pos h2, if_pos h3, if_pos h4]
          cases g
          · exact ⟨true, rfl, rfl⟩
          · refine ⟨o == 0, ?_, rfl⟩
            rw [if_pos rfl]
            by_cases h5 : o = 0
            · subst h5; rfl
            · have h6 : decide (o > 0) = true := decide_eq_true (by omega)
              rw [h6, beq_eq_false_iff_ne.mpr h5]; rfl
theorem renew_eq (v o : Int) (g : Bool) : catchmentref07_Renew.f v o g = vlock_Renew.f v o g := rfl
theorem retire_eq (k : Nat) (v o : Int) (g : Bool) (who : Int) : catchmentref07_Retire.f (k + 1) v o g who = vlock_Retire.f v o g who := by
  unfold catchmentref07_Retire.f vlock_Retire.f
  rw [refBump_f]
  unfold vlock_Bump.f
  by_cases h1 : who < 1
  · simp [h1]
  · by_cases h2 : o = who
    · by_cases h3 : v ≥ 1099511627776 <;> simp [h1, h2, h3]
    · simp [h1, h2]
theorem some_of {α : Type} {x : Option α} (h : x ≠ none) : ∃ y, x = some y := by
  cases x with
  | none => exact absurd rfl h
  | some y => exact ⟨y, rfl⟩
theorem VlockDoes : catchmentlaw07_VlockDoes.Pure := by
  intro y0 a1 h0 h1
  obtain ⟨v, o, g⟩ := y0
  refine ⟨0 + 10 + 1, ?_⟩
  have hl := live_f 0
  have ht := try_f (0 + 10) v o g a1
  have ht2 := refTry_f (0 + 10) v o g a1
  have hb := refBump_f (0 + 9) v o g a1
  have hr := retire_eq (0 + 9) v o g a1
  obtain ⟨f, hf⟩ : ∃ y, vlock_Free.f v o g a1 = some y := some_of (by unfold vlock_Free.f; (repeat' split) <;> simp)
  obtain ⟨bp, hbp⟩ : ∃ y, vlock_Bump.f v o g a1 = some y := some_of (by unfold vlock_Bump.f; (repeat' split) <;> simp)
  obtain ⟨rt, hrt⟩ : ∃ y, vlock_Retire.f v o g a1 = some y := some_of (by unfold vlock_Retire.f; (repeat' split) <;> simp)
  obtain ⟨rn, hrn⟩ : ∃ y, vlock_Renew.f v o g = some y := some_of (by unfold vlock_Renew.f; (repeat' split) <;> simp)
  obtain ⟨r, hr1, hr2⟩ := right_eq v o g
  have hb' : catchmentref07_Bump.f (0 + 10) v o g a1 = some bp := by rw [← hbp, ← hb]
  have hr' : catchmentref07_Retire.f (0 + 10) v o g a1 = some rt := by rw [← hrt, ← hr]
  generalize hK : 0 + 10 = K at *
  simp only [catchmentlaw07_VlockDoes.f, ht, ht2, hf, free_eq, Option.bind_some, hr1, hr2, catchmentlaw07_VlockDoes.j0, hl, hb', hbp, hr', hrt, hrn, renew_eq]
  simp
end Go.Proofs.Ytdlhiadekgnieaa.Pure
