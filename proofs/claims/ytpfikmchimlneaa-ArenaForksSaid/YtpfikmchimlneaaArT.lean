/- The arena's Take. -/
import Derived.Test.YtpfikmchimlneaaArI
set_option linter.unusedVariables false
set_option linter.unusedSimpArgs false
namespace Go.Proofs.Ytpfikmchimlneaa.Ar
open Go.RowKit Go.Proofs.YtpfikmchimlneaaW.PrintWords Go.Proofs.YtpfikmchimlneaaW.PrintWords.Kd Go.Proofs.YtpfikmchimlneaaW.PrintLast Go.Proofs.YtpfikmchimlneaaW.PrintMore Go.Proofs.YtpfikmchimlneaaW.Sl Go.Proofs.YtpfikmchimlneaaW.Ar
variable {B g : Nat} {v : Value} {s : St Int}
set_option maxHeartbeats 4000000 in
set_option maxRecDepth 100000 in
theorem take_int (w : World) (h : AI B w g v s) (x i : Int) (s' : St Int) (hm : take1 s x = some (s', i)) (h0 : 0 ≤ s.used) (h1 : s.used < s.most) (h2 : s.most < 1000000) :
    Calls Try.prog 24 #[.pointer (some ⟨g, 0, none⟩), .int .i64 x] w fun e w' => e = .returned (.tuple #[.int .i64 i, .int .i64 0]) ∧ Does B w g v s' w' := by
  have hmany : many 1 s x = some (s', [i]) := by simp [many, hm]
  have hc := many_int w h 1 x s' [i] hmany h0 (by omega) h2 (by omega)
  have HC := Aside0.mk hc
  clear hc hmany hm h h0 h1 h2
  go_enter Try.func24, Try.ntmps24
  go_wp2_with (go_at_call 57; refine HC.out.mono ?_; rintro e w1 ⟨A, rfl, hC, hD⟩; obtain ⟨ad, rfl, hc0⟩ := at_int hC 0 (by omega) (by simp); have hc1 : w1.cell? ad = some (.int .i64 i) := hc0; have HD := Aside0.mk hD; clear hD hC hc0)
  go_ret2
  exact ⟨rfl, HD.out⟩
set_option maxHeartbeats 4000000 in
set_option maxRecDepth 100000 in
theorem take_full_int (w : World) (h : AI B w g v s) (x : Int) (h0 : 0 ≤ s.used) (h1 : s.used = s.most) (h2 : s.most < 1000000) :
    Calls Try.prog 24 #[.pointer (some ⟨g, 0, none⟩), .int .i64 x] w fun e w' => e = .returned (.tuple #[.int .i64 0, .int .i64 9]) ∧ Below w.heap.size w w' := by
  have hc := many_full_int w h 1 x h0 (by omega) h2 (by omega)
  have HC := Aside0.mk hc
  clear hc h h0 h1 h2
  go_enter Try.func24, Try.ntmps24
  go_wp2_with (go_at_call 57; refine HC.out.mono ?_; rintro e w1 ⟨rfl, hD⟩; have HD := Aside0.mk hD; clear hD)
  go_ret2
  exact ⟨rfl, HD.out⟩
end Go.Proofs.Ytpfikmchimlneaa.Ar
