-- written by a program of this session (wip/myprint.py), over the kit's printer and the session's own contracts
import Derived.Test.YtnklnjghecmihaaH3x0
namespace Go.Proofs.Ytnklnjghecmihaa.H3
open Go.RowKit Go.Proofs.YtnklnjghecmihaaW.PrintWords Go.Proofs.YtnklnjghecmihaaW.PrintLast Go.Proofs.YtnklnjghecmihaaW.PrintMore Go.Proofs.YtnklnjghecmihaaW.Mine
attribute [local go_sem] max2_int min2_int max_two min_two max_three min_three max_four min_four max2_str min2_str binOp_gtr_str binOp_leq_str binOp_geq_str   -- for this text's walks alone
set_option linter.unusedVariables false
set_option linter.unusedSimpArgs false

/-! ### block_must: function 75 -/
def block_must.f (a0 : Int) : Option (Unit) := if a0 = 0 then (some ()) else (none)
set_option maxHeartbeats 8000000 in
set_option maxRecDepth 100000 in
theorem block_must.calls (a0 : Int) (w : World) (h : block_must.f a0 = some ()) :
    Calls Try.prog 75 #[.int .i64 a0] w fun e w' => e = .returned (.tuple #[]) ∧ Drawn0 w w' := by
  have hu100 := Try.underlying100
  have H : (if a0 = 0 then (some ()) else (none)) = some () := h
  clear h
  by_cases c2 : a0 = 0
  · rw [if_pos c2] at H
    have c2b0 : (a0 == 0) = true := beq_iff_eq.mpr c2
    have c2b1 : (a0 != 0) = false := bne_eq_false_iff_eq.mpr c2
    clear c2
    go_enter Try.func75, Try.ntmps75
    go_wp2
    first | go_end0 | ((try simp only [Exit.inBlock, Exit.then]); refine bodyPost_ret (results_none rfl _ _ _) rfl ?_)
    exact ⟨by first | rfl | (simp; done) | (simp [*]; done), by repeat (first | exact Drawn0.refl _ | apply Drawn0.step)⟩
  · rw [if_neg c2] at H
    exact absurd H (by simp)

end Go.Proofs.Ytnklnjghecmihaa.H3
