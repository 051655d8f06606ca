/- For every two ranges and every text the law KeyRanges answers true: no condition beyond what a Go value of these types can be. -/
import Derived.Test.YtdlhiadekgnieaaQ1x42
import Derived.Test.YtdlhiadekgnieaaQ1x37
import Derived.Test.YtdlhiadekgnieaaQ1x41
import Derived.Test.YtdlhiadekgnieaaQ1x40
import Derived.Test.YtdlhiadekgnieaaQ1x39
import Derived.Test.YtdlhiadekgnieaaQ1x38
import Derived.Test.YtdlhiadekgnieaaKeySpec
set_option linter.unusedVariables false
set_option linter.unusedSimpArgs false
namespace Go.Proofs.Ytdlhiadekgnieaa.Pure
open Go.RowKit Go.Proofs.Ytdlhiadekgnieaa.Q1 Go.Proofs.Ytdlhiadekgnieaa.KeySpec Go.Proofs.YtdlhiadekgnieaaW.PrintWords Go.Proofs.YtdlhiadekgnieaaW.PrintLast Go.Proofs.YtdlhiadekgnieaaW.Ord Go.Proofs.YtdlhiadekgnieaaW.Mine
theorem refMeet_f (a0 a1 b0 b1 : ByteArray) : catchmentref02_Meet.f a0 a1 b0 b1 = some (meet a0 a1 b0 b1) := by
  have e1 : catchmentref02_Meet.ahd = ahd := rfl
  have e2 : catchmentref02_Meet.bef = bef := rfl
  unfold catchmentref02_Meet.f meet
  rw [e1, e2]
  by_cases h : ahd a0.toList a1.toList = true ∧ ahd b0.toList b1.toList = true ∧ ahd (smx a0 b0).toList (if bef b1.toList a1.toList = true then b1 else a1).toList = true
  · rw [if_pos h, if_pos h]
  · rw [if_neg h, if_neg h]
theorem refHolds_f (a0 a1 s : ByteArray) : catchmentref02_Holds.f a0 a1 s = some (!(Op.bytesLess s.toList a0.toList) && ahd s.toList a1.toList) := by
  unfold catchmentref02_Holds.f ahd
  by_cases h : Op.bytesLess s.toList a0.toList = true
  · rw [if_pos h, h]; rfl
  · rw [if_neg h]
    have h2 : Op.bytesLess s.toList a0.toList = false := by simpa using h
    rw [h2]
    cases h3 : a1.toList <;> simp
theorem bef_irrefl (a : List UInt8) : bef a a = false := by
  unfold bef
  cases a with
  | nil => rfl
  | cons x a =>
    have : Op.bytesLess (x :: a) (x :: a) = false := by simpa [L] using L_irrefl (x :: a)
    simp [this]
theorem refWithin_f (k : Nat) (a0 a1 b0 b1 : ByteArray) : key_Within.f (k + 1) a0 a1 b0 b1 = catchmentref02_Within.f a0 a1 b0 b1 := by
  rw [within_f]
  unfold catchmentref02_Within.f
  rw [refRight_f, refRight_f]
  simp only [Option.bind_some, refBefore_f]
  unfold meet
  by_cases ha : ahd a0.toList a1.toList = true
  · rw [if_pos ha]
    by_cases hb : ahd b0.toList b1.toList = true
    · rw [if_pos hb]
      by_cases hl : Op.bytesLess a0.toList b0.toList = true
      · rw [if_pos hl]
        have e : (smx a0 b0) = b0 := by unfold smx; rw [if_pos hl]
        have ne : (b0.toList == a0.toList) = false := by
          rw [beq_eq_false_iff_ne]
          intro h
          rw [h] at hl
          exact L_irrefl _ hl
        rw [e]
        generalize (if bef b1.toList a1.toList = true then b1 else a1) = t
        by_cases hc : ahd a0.toList a1.toList = true ∧ ahd b0.toList b1.toList = true ∧ ahd b0.toList t.toList = true
        · rw [if_pos hc]
          show some (true && (b0.toList == a0.toList && t.toList == a1.toList)) = some false
          rw [ne]
          rfl
        · rw [if_neg hc]
          rfl
      · rw [if_neg hl]
        have e : (smx a0 b0) = a0 := by unfold smx; rw [if_neg hl]
        rw [e]
        cases hf : bef b1.toList a1.toList
        · simp only [Bool.false_eq_true, if_false, ha, hb, and_self, if_true]
          simp
        · have ne : (b1.toList == a1.toList) = false := by
            rw [beq_eq_false_iff_ne]
            intro h
            rw [h, bef_irrefl] at hf
            cases hf
          simp only [if_true]
          by_cases hc : ahd a0.toList a1.toList = true ∧ ahd b0.toList b1.toList = true ∧ ahd a0.toList b1.toList = true
          · rw [if_pos hc]
            show some (true && (a0.toList == a0.toList && b1.toList == a1.toList)) = some (!true)
            rw [ne]
            simp
          · rw [if_neg hc]
            rfl
    · rw [if_neg hb, if_neg (fun h => hb h.2.1)]
      rfl
  · rw [if_neg ha, if_neg (fun h => ha h.1)]
    rfl
/-- both parts of a range -/
def parts (f t s : ByteArray) : ByteArray × ByteArray × ByteArray × ByteArray × Bool := if (ahd f.toList t.toList && (Op.bytesLess f.toList s.toList && ahd s.toList t.toList)) = true then (f, s, s, t, true) else (⟨#[]⟩, ⟨#[]⟩, ⟨#[]⟩, ⟨#[]⟩, false)
theorem split_f (f t s : ByteArray) : key_Split.f f t s = some (parts f t s) := by
  unfold key_Split.f parts
  rw [rightRange_f]
  simp only [Option.bind_some, ahead_f]
  cases h1 : ahd f.toList t.toList <;> cases h2 : Op.bytesLess f.toList s.toList <;> cases h3 : ahd s.toList t.toList <;> simp
theorem refSplit_f (f t s : ByteArray) : catchmentref02_Split.f f t s = some (parts f t s) := by
  unfold catchmentref02_Split.f parts
  rw [refRight_f]
  simp only [Option.bind_some]
  cases h1 : ahd f.toList t.toList <;> cases h2 : Op.bytesLess f.toList s.toList
  · simp
  · simp
  · simp
  · by_cases h4 : t.toList = []
    · simp [h4, ahd]
    · cases h5 : Op.bytesLess s.toList t.toList <;> simp [h4, h5, ahd]
theorem KeyRanges : catchmentlaw02_KeyRanges.Pure := by
  intro y0 y1 s h0 h1 h2
  obtain ⟨a0, a1⟩ := y0
  obtain ⟨b0, b1⟩ := y1
  refine ⟨9 + 1, ?_⟩
  have hl : catchmentlaw02_live.f (9 + 1) = some true := live_f 0
  have hm := meet_f 9 a0 a1 b0 b1
  have hw := refWithin_f 9 a0 a1 b0 b1
  obtain ⟨b, hb⟩ : ∃ b, catchmentref02_Within.f a0 a1 b0 b1 = some b := ⟨_, by rw [← hw, within_f]⟩
  rw [hb] at hw
  have ha := after_f s (by omega)
  generalize 9 + 1 = K at *
  have hs : s.size + 1 ≤ 9223372036854775807 := by omega
  simp only [catchmentlaw02_KeyRanges.f, hm, hw, hb, refMeet_f, split_f, refSplit_f, hl, rightRange_f, refRight_f, holds_f, refHolds_f, key_Point.f, ha, Option.bind_some]
  simp [hs]
end Go.Proofs.Ytdlhiadekgnieaa.Pure
