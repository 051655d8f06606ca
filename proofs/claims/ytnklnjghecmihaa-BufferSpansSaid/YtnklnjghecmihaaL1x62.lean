/- tight -/ -- written by wip/myprint.py
import Derived.Test.YtnklnjghecmihaaL1x0
import Derived.Test.YtnklnjghecmihaaL1P0
namespace Go.Proofs.Ytnklnjghecmihaa.L1
open Go.RowKit Go.Proofs.YtnklnjghecmihaaW PrintWords PrintLast PrintMore Mine
attribute [local go_sem] max2_int min2_int max_two min_two max_three min_three max_four min_four max2_str min2_str binOp_gtr_str binOp_leq_str binOp_geq_str
set_option linter.unusedVariables false
set_option linter.unusedSimpArgs false

/-! ### key_Last: function 115 -/
def key_Last.f (a0 : ByteArray) (a1 : ByteArray) : Option (ByteArray) := (key_Before.f a0 a1).bind fun t390 => (if t390 = true then (some a1) else (some a0))
set_option maxHeartbeats 8000000 in
set_option maxRecDepth 100000 in
theorem key_Last.calls (a0 : ByteArray) (a1 : ByteArray) (r : ByteArray) (w : World) (h : key_Last.f a0 a1 = some r) :
  Calls Try.prog 115 #[.string a0, .string a1] w fun e w' => e = .returned (.string r) ∧ Drawn0 w w' := by
 (have H : ((key_Before.f a0 a1).bind fun t390 => (if t390 = true then (some a1) else (some a0))) = some r := h); (clear h); (replace H := Option.bind_eq_some_iff.mp H); (obtain ⟨t390, A30, H⟩ := H); (replace H : (if t390 = true then (some a1) else (some a0)) = some r := H); (have A3 := Aside0.mk A30); (clear A30); (by_cases c4 : t390 = true)
 ·subst c4
  (have H1 : (some a1) = some r := by rw [if_pos rfl] at H; exact H); (clear H); (have H := H1); (clear H1); (obtain rfl := Option.some.inj H); (go_enter Try.func115, Try.ntmps115); (go_wp2_with (first | ((with_reducible refine gate_callee (f := 136) rfl ?_); refine goesL_ (some 7) rfl rfl Try.func136 (by kernel_rfl) rfl #[.string a0, .string a1] rfl (by (try simp only [List.map_toArray, List.map_cons, List.map_nil]); first | done | rfl) ?_; (with_reducible refine (key_Before.calls a0 a1 true _ A3.out).mono ?_); rintro e w' ⟨rfl, ⟨nd, rfl⟩⟩; refine ⟨_, rfl, ?_⟩))); (go_ret); (exact ⟨by first | rfl | (simp; done) | (simp [*]; done), by repeat (first | exact Drawn0.refl _ | apply Drawn0.step)⟩)
 ·replace c4 := Bool.eq_false_iff.mpr c4
  (subst c4); (have H1 : (some a0) = some r := by rw [if_neg (show ¬ (false = true) by decide)] at H; exact H); (clear H); (have H := H1); (clear H1); (obtain rfl := Option.some.inj H); (go_enter Try.func115, Try.ntmps115); (go_wp2_with (first | ((with_reducible refine gate_callee (f := 136) rfl ?_); refine goesL_ (some 7) rfl rfl Try.func136 (by kernel_rfl) rfl #[.string a0, .string a1] rfl (by (try simp only [List.map_toArray, List.map_cons, List.map_nil]); first | done | rfl) ?_; (with_reducible refine (key_Before.calls a0 a1 false _ A3.out).mono ?_); rintro e w' ⟨rfl, ⟨nd, rfl⟩⟩; refine ⟨_, rfl, ?_⟩))); (go_ret); (exact ⟨by first | rfl | (simp; done) | (simp [*]; done), by repeat (first | exact Drawn0.refl _ | apply Drawn0.step)⟩)

end Go.Proofs.Ytnklnjghecmihaa.L1
