/- What the functions of the packages vlock and catchmentref07 answer, as plain functions of numbers. No condition. -/
import Derived.Test.YtdlhiadekgnieaaQ1x23
import Derived.Test.YtdlhiadekgnieaaQ1x22
import Derived.Test.YtdlhiadekgnieaaQ1x20
import Derived.Test.YtdlhiadekgnieaaQ1x26
import Derived.Test.YtdlhiadekgnieaaQ1x27
import Derived.Test.YtdlhiadekgnieaaMine
set_option linter.unusedVariables false
set_option linter.unusedSimpArgs false
namespace Go.Proofs.Ytdlhiadekgnieaa.VlockSpec
open Go.RowKit Go.Proofs.Ytdlhiadekgnieaa.Q1 Go.Proofs.YtdlhiadekgnieaaW.PrintWords Go.Proofs.YtdlhiadekgnieaaW.PrintLast Go.Proofs.YtdlhiadekgnieaaW.PrintMore Go.Proofs.YtdlhiadekgnieaaW.Mine Go.Proofs.YtdlhiadekgnieaaW.Ord
/-- somebody takes a word -/
def tak (v o : Int) (g : Bool) (who : Int) : Int × Int × Bool × Int :=
  if who < 1 ∨ who > 64 then (0, 0, false, 2) else if g = true then (0, 0, false, 14) else if o = 0 then (v, who, false, 0) else (0, 0, false, 12)
theorem try_f (k : Nat) (v o : Int) (g : Bool) (who : Int) : vlock_Try.f (k + 1) v o g who = some (tak v o g who) := by
  unfold vlock_Try.f tak
  by_cases h1 : who < 1
  · simp [h1, vlock_Try.j0]
  · by_cases h2 : who > 64
    · simp [h1, h2, vlock_Try.j0]
    · cases g
      · by_cases h3 : o = 0 <;> simp [h1, h2, h3, vlock_Try.j0]
      · simp [h1, h2, vlock_Try.j0]
theorem live_10 : catchmentlaw07_live.f 10 = some true := by decide +kernel
theorem live_f (k : Nat) : catchmentlaw07_live.f (k + 10) = some true := by
  induction k with
  | zero => exact live_10
  | succ k ih => exact catchmentlaw07_live.mono (k + 10) _ ih
/-- is what was read so still? -/
def val (v o : Int) (g : Bool) (a : Int) : Int := if g = true then 14 else if v = a then (if o = 0 then 0 else 12) else 16
theorem valid_f (v o : Int) (g : Bool) (a : Int) : vlock_Valid.f v o g a = some (val v o g a) := by
  unfold vlock_Valid.f vlock_Begin.f val
  cases g
  · by_cases h : v = a
    · by_cases h2 : o = 0 <;> simp [h, h2]
    · simp [h]
  · simp
end Go.Proofs.Ytdlhiadekgnieaa.VlockSpec
