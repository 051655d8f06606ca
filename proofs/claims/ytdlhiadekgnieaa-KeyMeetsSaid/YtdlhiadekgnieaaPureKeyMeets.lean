/- For every two ranges and every text the law KeyMeets answers true: no condition beyond what a Go value of these types can be. -/
import Derived.Test.YtdlhiadekgnieaaQ1x12
import Derived.Test.YtdlhiadekgnieaaKeySpec
set_option linter.unusedVariables false
set_option linter.unusedSimpArgs false
namespace Go.Proofs.Ytdlhiadekgnieaa.Pure
open Go.RowKit Go.Proofs.Ytdlhiadekgnieaa.Q1 Go.Proofs.Ytdlhiadekgnieaa.KeySpec Go.Proofs.YtdlhiadekgnieaaW.PrintWords Go.Proofs.YtdlhiadekgnieaaW.PrintLast Go.Proofs.YtdlhiadekgnieaaW.Ord Go.Proofs.YtdlhiadekgnieaaW.Mine
/-- has a range a text? -/
def hol (a e s : List UInt8) : Bool := !(Op.bytesLess s a) && ahd s e
theorem hol_iff {a e s : List UInt8} : hol a e s = true ↔ ¬ L s a ∧ (e = [] ∨ L s e) := by
  simp [hol, ahd_iff, L]
/-- what both ranges have, the common range has, and no more -/
theorem meet_holds (a0 a1 b0 b1 s : ByteArray) (ha : ahd a0.toList a1.toList = true) (hb : ahd b0.toList b1.toList = true) :
    (hol a0.toList a1.toList s.toList && hol b0.toList b1.toList s.toList) = ((meet a0 a1 b0 b1).2.2 && hol (meet a0 a1 b0 b1).1.toList (meet a0 a1 b0 b1).2.1.toList s.toList) := by
  rw [Bool.eq_iff_iff]
  simp only [Bool.and_eq_true, hol_iff]
  have hlow : ¬ L s.toList (smx a0 b0).toList ↔ ¬ L s.toList a0.toList ∧ ¬ L s.toList b0.toList := by
    rw [smx_toList]
    split
    · rename_i h
      exact ⟨fun h2 => ⟨fun h3 => h2 (L_trans h3 h), h2⟩, fun h2 => h2.2⟩
    · rename_i h
      exact ⟨fun h2 => ⟨h2, fun h3 => h2 (L_of_lt h3 h)⟩, fun h2 => h2.1⟩
  have hhigh : ((if bef b1.toList a1.toList = true then b1 else a1).toList = [] ∨ L s.toList (if bef b1.toList a1.toList = true then b1 else a1).toList) ↔ (a1.toList = [] ∨ L s.toList a1.toList) ∧ (b1.toList = [] ∨ L s.toList b1.toList) := by
    by_cases h : bef b1.toList a1.toList = true
    · rw [if_pos h]
      have h2 := bef_iff.1 h
      constructor
      · rintro (h3 | h3)
        · exact absurd h3 h2.1
        · rcases h2.2 with h4 | h4
          · exact ⟨.inl h4, .inr h3⟩
          · exact ⟨.inr (L_trans h3 h4), .inr h3⟩
      · exact fun h3 => h3.2
    · rw [if_neg h]
      have h2 : ¬ (b1.toList ≠ [] ∧ (a1.toList = [] ∨ L b1.toList a1.toList)) := fun h3 => h (bef_iff.2 h3)
      constructor
      · intro h3
        refine ⟨h3, ?_⟩
        by_cases h4 : b1.toList = []
        · exact .inl h4
        · rcases h3 with h3 | h3
          · exact absurd ⟨h4, .inl h3⟩ h2
          · exact .inr (L_of_lt h3 (fun h5 => h2 ⟨h4, .inr h5⟩))
      · exact fun h3 => h3.1
  unfold meet
  by_cases hm : ahd (smx a0 b0).toList (if bef b1.toList a1.toList = true then b1 else a1).toList = true
  · rw [if_pos ⟨ha, hb, hm⟩]
    simp only [hlow, hhigh]
    constructor
    · rintro ⟨⟨h1, h2⟩, h3, h4⟩
      exact ⟨trivial, ⟨h1, h3⟩, h2, h4⟩
    · rintro ⟨_, ⟨h1, h3⟩, h2, h4⟩
      exact ⟨⟨h1, h2⟩, h3, h4⟩
  · rw [if_neg (fun h => hm h.2.2)]
    constructor
    · rintro ⟨⟨h1, h2⟩, h3, h4⟩
      exfalso
      apply hm
      rw [ahd_iff]
      rcases hhigh.2 ⟨h2, h4⟩ with h5 | h5
      · exact .inl h5
      · exact .inr (L_of_le (hlow.2 ⟨h1, h3⟩) h5)
    · intro h
      exact absurd h.1 (by simp)
theorem KeyMeets : catchmentlaw02_KeyMeets.Pure := by
  intro y0 y1 a2 h0 h1 h2
  refine ⟨0 + 10 + 1 + 1, ?_⟩
  have hl := live_f 0
  have hl1 := live_f 1
  have hm : key_Meet.f (0 + 10 + 1) y0.f0 y0.f1 y1.f0 y1.f1 = _ := meet_f (0 + 10) y0.f0 y0.f1 y1.f0 y1.f1
  have hw : key_Within.f (0 + 10) y0.f0 y0.f1 y1.f0 y1.f1 = _ := within_f (0 + 9) y0.f0 y0.f1 y1.f0 y1.f1
  generalize hK : 0 + 10 = K at *
  have hl1 : catchmentlaw02_live.f (K + 1) = some true := by rw [← hK]; exact live_f 1
  simp only [catchmentlaw02_KeyMeets.f, refRight_f, Option.bind_some, catchmentlaw02_KeyMeets.j0, hl1]
  by_cases ha : ahd y0.f0.toList y0.f1.toList = true
  · by_cases hb : ahd y1.f0.toList y1.f1.toList = true
    · have e := meet_holds y0.f0 y0.f1 y1.f0 y1.f1 a2 ha hb
      simp only [ha, hb, if_true, Bool.not_true, Bool.false_eq_true, if_false, hm, Option.bind_some, holds_f]
      simp only [catchmentlaw02_KeyMeets.j1, hl, hw, Option.bind_some, holds_f, if_true]
      unfold hol at e
      generalize meet y0.f0 y0.f1 y1.f0 y1.f1 = m at *
      have hx : (m.1.toList == y0.f0.toList && m.2.1.toList == y0.f1.toList) = true → (!(Op.bytesLess a2.toList m.1.toList) && ahd a2.toList m.2.1.toList) = (!(Op.bytesLess a2.toList y0.f0.toList) && ahd a2.toList y0.f1.toList) := by
        intro h
        simp only [Bool.and_eq_true, beq_iff_eq] at h
        rw [h.1, h.2]
      generalize (m.1.toList == y0.f0.toList && m.2.1.toList == y0.f1.toList) = X at *
      generalize (!(Op.bytesLess a2.toList m.1.toList) && ahd a2.toList m.2.1.toList) = M at *
      generalize (!(Op.bytesLess a2.toList y0.f0.toList) && ahd a2.toList y0.f1.toList) = A at *
      generalize (!(Op.bytesLess a2.toList y1.f0.toList) && ahd a2.toList y1.f1.toList) = B at *
      generalize m.2.2 = ok at *
      clear hm hw ha hb hl hl1
      revert e hx
      cases X <;> cases M <;> cases A <;> cases B <;> cases ok <;> simp
    · simp [ha, hb]
  · simp [ha]
end Go.Proofs.Ytdlhiadekgnieaa.Pure
