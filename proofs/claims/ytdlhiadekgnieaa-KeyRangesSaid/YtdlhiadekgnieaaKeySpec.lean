/- What the functions of the packages key and catchmentref02 answer, as plain functions of lists of bytes. No condition. -/
import Derived.Test.YtdlhiadekgnieaaQ1x13
import Derived.Test.YtdlhiadekgnieaaQ1x18
import Derived.Test.YtdlhiadekgnieaaQ1x17
import Derived.Test.YtdlhiadekgnieaaQ1x31
import Derived.Test.YtdlhiadekgnieaaQ1x9
import Derived.Test.YtdlhiadekgnieaaQ1x35
import Derived.Test.YtdlhiadekgnieaaQ1x30
import Derived.Test.YtdlhiadekgnieaaQ1x33
import Derived.Test.YtdlhiadekgnieaaQ1x14
import Derived.Test.YtdlhiadekgnieaaMine
set_option linter.unusedVariables false
set_option linter.unusedSimpArgs false
namespace Go.Proofs.Ytdlhiadekgnieaa.KeySpec
open Go.RowKit Go.Proofs.Ytdlhiadekgnieaa.Q1 Go.Proofs.YtdlhiadekgnieaaW.PrintWords Go.Proofs.YtdlhiadekgnieaaW.PrintLast Go.Proofs.YtdlhiadekgnieaaW.PrintMore Go.Proofs.YtdlhiadekgnieaaW.Mine Go.Proofs.YtdlhiadekgnieaaW.Ord
/-- before an end? -/
def ahd (a e : List UInt8) : Bool := e.isEmpty || Op.bytesLess a e
/-- one end before another one? -/
def bef (a b : List UInt8) : Bool := !a.isEmpty && (b.isEmpty || Op.bytesLess a b)
theorem ahd_iff {a e : List UInt8} : ahd a e = true ↔ e = [] ∨ L a e := by simp [ahd, L]
theorem bef_iff {a b : List UInt8} : bef a b = true ↔ a ≠ [] ∧ (b = [] ∨ L a b) := by simp [bef, L]
theorem ahead_f (a b : ByteArray) : key_ahead.f a b = some (ahd a.toList b.toList) := by
  unfold key_ahead.f ahd
  cases h : b.toList <;> simp
theorem rightRange_f (a b : ByteArray) : key_RightRange.f a b = some (ahd a.toList b.toList) := by
  simp [key_RightRange.f, ahead_f]
theorem refRight_f (a b : ByteArray) : catchmentref02_Right.f a b = some (ahd a.toList b.toList) := by
  unfold catchmentref02_Right.f ahd
  cases h : b.toList <;> simp
theorem before_f (a b : ByteArray) : key_Before.f a b = some (bef a.toList b.toList) := by
  unfold key_Before.f bef
  cases h : a.toList <;> cases h2 : b.toList <;> simp
theorem refBefore_f (a b : ByteArray) : catchmentref02_Before.f a b = some (bef a.toList b.toList) := by
  unfold catchmentref02_Before.f bef
  cases h : a.toList <;> cases h2 : b.toList <;> simp
theorem first_f (a b : ByteArray) : key_First.f a b = some (if bef b.toList a.toList = true then b else a) := by
  simp only [key_First.f, before_f, Option.bind_some]
  split <;> rfl
theorem last_f (a b : ByteArray) : key_Last.f a b = some (if bef a.toList b.toList = true then b else a) := by
  simp only [key_Last.f, before_f, Option.bind_some]
  split <;> rfl
/-- what two ranges have in common -/
def meet (a0 a1 b0 b1 : ByteArray) : ByteArray × ByteArray × Bool :=
  if ahd a0.toList a1.toList = true ∧ ahd b0.toList b1.toList = true ∧ ahd (smx a0 b0).toList (if bef b1.toList a1.toList = true then b1 else a1).toList = true then
    (smx a0 b0, (if bef b1.toList a1.toList = true then b1 else a1), true) else (⟨#[]⟩, ⟨#[]⟩, false)
theorem meet_f (k : Nat) (a0 a1 b0 b1 : ByteArray) : key_Meet.f (k + 1) a0 a1 b0 b1 = some (meet a0 a1 b0 b1) := by
  simp only [key_Meet.f, rightRange_f, Option.bind_some, key_Meet.j0, first_f, meet]
  by_cases h1 : ahd a0.toList a1.toList = true
  · by_cases h2 : ahd b0.toList b1.toList = true
    · simp only [h1, h2, if_true, true_and]
      by_cases h3 : ahd (smx a0 b0).toList (if bef b1.toList a1.toList = true then b1 else a1).toList = true
      · simp [h3]
      · simp [h3]
    · simp [h1, h2]
  · simp [h1]
theorem holds_f (a0 a1 s : ByteArray) : key_Holds.f a0 a1 s = some (!(Op.bytesLess s.toList a0.toList) && ahd s.toList a1.toList) := by
  simp only [key_Holds.f, ahead_f, Option.bind_some]
  by_cases h : Op.bytesLess s.toList a0.toList = true <;> simp [h]
theorem within_f (k : Nat) (a0 a1 b0 b1 : ByteArray) : key_Within.f (k + 1) a0 a1 b0 b1 = some ((meet a0 a1 b0 b1).2.2 && ((meet a0 a1 b0 b1).1.toList == a0.toList && (meet a0 a1 b0 b1).2.1.toList == a1.toList)) := by
  simp only [key_Within.f, meet_f, Option.bind_some]
  cases h : (meet a0 a1 b0 b1).2.2 <;> simp
theorem after_f (a : ByteArray) (h : a.size + 1 ≤ 9223372036854775807) : key_After.f a = some (a ++ ⟨#[0]⟩) := by
  simp [key_After.f, h]
theorem after_toList (a : ByteArray) : (a ++ (⟨#[0]⟩ : ByteArray)).toList = a.toList ++ [0] := by
  rw [toList_append, toList_lit [0]]
theorem smx_toList (a b : ByteArray) : (smx a b).toList = if L a.toList b.toList then b.toList else a.toList := by
  unfold smx L; split <;> rfl
theorem live_10 : catchmentlaw02_live.f 10 = some true := by
  decide +kernel
theorem live_f (k : Nat) : catchmentlaw02_live.f (k + 10) = some true := by
  induction k with
  | zero => exact live_10
  | succ k ih => exact catchmentlaw02_live.mono (k + 10) _ ih
end Go.Proofs.Ytdlhiadekgnieaa.KeySpec
