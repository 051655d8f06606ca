/- A deed on both sides, whatever it is. -/
import Derived.Test.YtpfikmchimlneaaArSim2
set_option linter.unusedVariables false
set_option linter.unusedSimpArgs false
namespace Go.Proofs.Ytpfikmchimlneaa.Ar
open Go.Proofs.YtpfikmchimlneaaW.Mine Go.RowKit Go.Proofs.YtpfikmchimlneaaW.PrintWords Go.Proofs.YtpfikmchimlneaaW.PrintWords.Kd Go.Proofs.YtpfikmchimlneaaW.PrintLast Go.Proofs.YtpfikmchimlneaaW.PrintMore Go.Proofs.YtpfikmchimlneaaW.Sl Go.Proofs.YtpfikmchimlneaaW.Ar
variable {B g : Nat} {w W V W' : World} {X X' : Array Value} {r r' : Rf} {v v' : Value} {s s' : St Int}
/-- what a deed leaves -/
def Deed (B : Nat) (w : World) (g : Nat) (v : Value) (s : St Int) (e : Ending) (w' : World) : Prop :=
  ∃ X' s' r', e = .returned (.tuple #[.agg X', .bool true]) ∧ Sim s' r' ∧ s'.most = s.most ∧ RV B w' X' r' ∧ Does B w g v s' w'
theorem step_any (w : World) (hA : AI B w g v s) (hR : RV B w X r) (hBw : B ≤ w.heap.size) (hS : Sim s r) (D I N : Int) :
    Calls Try.prog 20 #[.pointer (some ⟨g, 0, none⟩), .agg X, .agg #[.int .i64 D, .int .i64 I, .int .i64 N]] w (Deed B w g v s) := by
  have hmost := hS.most
  have hm1 := hS.m1
  have hm2 := hS.m2
  have hused := hS.used
  have hbd := hS.bd
  have hu1 := hbd.u1
  by_cases h0 : D = 0
  · subst h0
    obtain ⟨s', r', i, c, h1, h2, h3, h4⟩ := hS.take N
    exact (step_take w hA hR hBw hbd I N i c h1 h2).mono (fun e w' ⟨X', he, hr, hd⟩ => ⟨X', s', r', he, h3, h4, hr, hd⟩)
  by_cases h1 : D = 1
  · subst h1
    obtain ⟨s', r', l, c, h1, h2, h3, hl, h4⟩ := hS.many N I
    exact (step_many w hA hR hBw hbd (by omega) (by omega) (by omega) I N c l hl h1 h2).mono (fun e w' ⟨X', he, hr, hd⟩ => ⟨X', s', r', he, h3, h4, hr, hd⟩)
  by_cases h2 : D = 2
  · subst h2
    by_cases hi : rhas r I = true
    · obtain ⟨k1, k2, k3⟩ := hS.give I hi
      exact (step_give w hA hR hBw hbd I N 0 (by unfold aGive; rw [if_pos ((hS.has I).trans hi), if_pos k1]) (by unfold rGiveF; rw [if_pos hi, if_pos k2])).mono (fun e w' ⟨X', he, hr, hd⟩ => ⟨X', _, _, he, k3, rfl, hr, hd⟩)
    · exact (step_give w hA hR hBw hbd I N 14 (by unfold aGive; rw [if_neg (by rw [hS.has I]; exact hi)]) (by unfold rGiveF; rw [if_neg hi])).mono (fun e w' ⟨X', he, hr, hd⟩ => ⟨X', _, _, he, hS, rfl, hr, hd⟩)
  by_cases h3 : D = 3
  · subst h3
    by_cases hi : rhas r I = true
    · exact (step_set w hA hR hBw hbd I N 0 (by unfold aSet; rw [if_pos ((hS.has I).trans hi)]) (by unfold rSetF; rw [if_pos hi])).mono (fun e w' ⟨X', he, hr, hd⟩ => ⟨X', _, _, he, hS.set I N hi, rfl, hr, hd⟩)
    · exact (step_set w hA hR hBw hbd I N 14 (by unfold aSet; rw [if_neg (by rw [hS.has I]; exact hi)]) (by unfold rSetF; rw [if_neg hi])).mono (fun e w' ⟨X', he, hr, hd⟩ => ⟨X', _, _, he, hS, rfl, hr, hd⟩)
  have hg := hS.get I
  by_cases hi : rhas r I = true
  · rw [if_pos hi] at hg
    exact (step_there w hA hR hBw hbd D I N h0 h1 h2 h3 hi hg).mono (fun e w' ⟨X', he, hr, hd⟩ => ⟨X', _, _, he, hS, rfl, hr, hd⟩)
  · rw [if_neg hi] at hg
    exact (step_gone w hA hR hBw hbd D I N h0 h1 h2 h3 (by simpa using hi) hg).mono (fun e w' ⟨X', he, hr, hd⟩ => ⟨X', _, _, he, hS, rfl, hr, hd⟩)
end Go.Proofs.Ytpfikmchimlneaa.Ar
