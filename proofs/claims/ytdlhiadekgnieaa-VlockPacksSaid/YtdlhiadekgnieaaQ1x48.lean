-- written by a program of this session (wip/myprint.py), over the kit's printer and the session's own contracts
import Derived.Test.YtdlhiadekgnieaaQ1x0
namespace Go.Proofs.Ytdlhiadekgnieaa.Q1
open Go.RowKit Go.Proofs.YtdlhiadekgnieaaW.PrintWords Go.Proofs.YtdlhiadekgnieaaW.PrintLast Go.Proofs.YtdlhiadekgnieaaW.PrintMore Go.Proofs.YtdlhiadekgnieaaW.Mine
attribute [local go_sem] max2_int min2_int max_two min_two max_three min_three max_four min_four max2_str min2_str binOp_gtr_str binOp_leq_str binOp_geq_str   -- for this text's walks alone
set_option linter.unusedVariables false
set_option linter.unusedSimpArgs false

/-! ### vlock_Retire: function 52 -/
def vlock_Retire.f (a0_0 : Int) (a0_1 : Int) (a0_2 : Bool) (a1 : Int) : Option (Int × Int × Bool × Int) := if a1 < 1 then some (0, 0, false, 13) else if a0_1 = a1 then (if a0_0 ≥ 1099511627776 then some (0, 0, false, 4) else some (wrap64 (a0_0 + 1), 0, true, 0)) else some (0, 0, false, 13)
set_option maxHeartbeats 4000000 in
set_option maxRecDepth 100000 in
theorem vlock_Retire.calls (a0_0 : Int) (a0_1 : Int) (a0_2 : Bool) (a1 : Int) (r1 : Int) (r2 : Int) (r3 : Bool) (r4 : Int) (w : World) (h : vlock_Retire.f a0_0 a0_1 a0_2 a1 = some (r1, r2, r3, r4)) :
    Calls Try.prog 52 #[.agg #[.int .i64 a0_0, .int .i64 a0_1, .bool a0_2], .int .i64 a1] w fun e w' => e = .returned (.tuple #[.agg #[.int .i64 r1, .int .i64 r2, .bool r3], .int .i64 r4]) ∧ Below w.heap.size w w' := by
  unfold vlock_Retire.f at h
  by_cases h1 : a1 < 1
  · rw [if_pos h1] at h
    have h0 : decide (a1 < 1) = true := decide_eq_true h1
    clear h1
    obtain ⟨rfl, rfl, rfl, rfl⟩ : 0 = r1 ∧ 0 = r2 ∧ false = r3 ∧ 13 = r4 := by simpa using h
    clear h
    go_enter Try.func52, Try.ntmps52
    go_wp2
    refine bodyPost_ret (v := .tuple #[.agg #[.int .i64 0, .int .i64 0, .bool false], .int .i64 13]) (by simp [results, Try.results62, go_sem]) rfl ?_
    go_wp2
    exact bodyPost_ret (v := .tuple #[.agg #[.int .i64 0, .int .i64 0, .bool false], .int .i64 13]) (by simp [results, Try.results52, go_sem]) rfl ⟨rfl, by repeat (first | exact Below.refl _ _ | apply below_alloc | refine below_set ?_ (by simp))⟩
  · rw [if_neg h1] at h
    have h0 : decide (a1 < 1) = false := decide_eq_false h1
    clear h1
    by_cases h2 : a0_1 = a1
    · rw [if_pos h2] at h
      subst h2
      by_cases h4 : a0_0 ≥ 1099511627776
      · rw [if_pos h4] at h
        have h5 : decide (a0_0 ≥ 1099511627776) = true := decide_eq_true h4
        have h6 : decide (1099511627776 ≤ a0_0) = true := decide_eq_true h4
        clear h4
        obtain ⟨rfl, rfl, rfl, rfl⟩ : 0 = r1 ∧ 0 = r2 ∧ false = r3 ∧ 4 = r4 := by simpa using h
        clear h
        go_enter Try.func52, Try.ntmps52
        go_wp2
        refine bodyPost_ret (v := .tuple #[.agg #[.int .i64 0, .int .i64 0, .bool false], .int .i64 4]) (by simp [results, Try.results62, go_sem]) rfl ?_
        go_wp2
        exact bodyPost_ret (v := .tuple #[.agg #[.int .i64 0, .int .i64 0, .bool false], .int .i64 4]) (by simp [results, Try.results52, go_sem]) rfl ⟨rfl, by repeat (first | exact Below.refl _ _ | apply below_alloc | refine below_set ?_ (by simp))⟩
      · rw [if_neg h4] at h
        have h5 : decide (a0_0 ≥ 1099511627776) = false := decide_eq_false h4
        have h6 : decide (1099511627776 ≤ a0_0) = false := decide_eq_false h4
        clear h4
        obtain ⟨rfl, rfl, rfl, rfl⟩ : (wrap64 (a0_0 + 1)) = r1 ∧ 0 = r2 ∧ true = r3 ∧ 0 = r4 := by simpa using h
        clear h
        go_enter Try.func52, Try.ntmps52
        go_wp2
        refine bodyPost_ret (v := .tuple #[.agg #[.int .i64 (wrap64 (a0_0 + 1)), .int .i64 0, .bool true], .int .i64 0]) (by simp [results, Try.results62, go_sem]) rfl ?_
        go_wp2
        exact bodyPost_ret (v := .tuple #[.agg #[.int .i64 (wrap64 (a0_0 + 1)), .int .i64 0, .bool true], .int .i64 0]) (by simp [results, Try.results52, go_sem]) rfl ⟨rfl, by repeat (first | exact Below.refl _ _ | apply below_alloc | refine below_set ?_ (by simp))⟩
    · rw [if_neg h2] at h
      have h3 : (a0_1 != a1) = true := bne_iff_ne.mpr h2
      clear h2
      obtain ⟨rfl, rfl, rfl, rfl⟩ : 0 = r1 ∧ 0 = r2 ∧ false = r3 ∧ 13 = r4 := by simpa using h
      clear h
      go_enter Try.func52, Try.ntmps52
      go_wp2
      refine bodyPost_ret (v := .tuple #[.agg #[.int .i64 0, .int .i64 0, .bool false], .int .i64 13]) (by simp [results, Try.results62, go_sem]) rfl ?_
      go_wp2
      exact bodyPost_ret (v := .tuple #[.agg #[.int .i64 0, .int .i64 0, .bool false], .int .i64 13]) (by simp [results, Try.results52, go_sem]) rfl ⟨rfl, by repeat (first | exact Below.refl _ _ | apply below_alloc | refine below_set ?_ (by simp))⟩

end Go.Proofs.Ytdlhiadekgnieaa.Q1
