-- written by a program of this session (wip/myprint.py), over the kit's printer and the session's own contracts
import Derived.Test.YtdlhiadekgnieaaQ1x0
namespace Go.Proofs.Ytdlhiadekgnieaa.Q1
open Go.RowKit Go.Proofs.YtdlhiadekgnieaaW.PrintWords Go.Proofs.YtdlhiadekgnieaaW.PrintLast Go.Proofs.YtdlhiadekgnieaaW.PrintMore Go.Proofs.YtdlhiadekgnieaaW.Mine
attribute [local go_sem] max2_int min2_int max_two min_two max_three min_three max_four min_four max2_str min2_str binOp_gtr_str binOp_leq_str binOp_geq_str   -- for this text's walks alone
set_option linter.unusedVariables false
set_option linter.unusedSimpArgs false

/-! ### catchmentref07_Unpack: function 59 -/
def catchmentref07_Unpack.f (a0 : Int) : Option (Int × Int × Bool × Int) := if 0 ≤ a0 ∧ a0 ≤ 18446744073709551615 then (if a0 / 256 > 1099511627776 then some (0, 0, false, 3) else if a0 % 128 > 64 then some (0, 0, false, 3) else if a0 / 128 % 2 = 1 then (if a0 % 128 > 0 then some (0, 0, false, 3) else some (a0 / 256, a0 % 128, true, 0)) else some (a0 / 256, a0 % 128, false, 0)) else none
theorem catchmentref07_Unpack.nums {a0 : Int} (h : 0 ≤ a0 ∧ a0 ≤ 18446744073709551615) : IntKind.u64.wrap (a0.tdiv 256) = a0 / 256 ∧ IntKind.u64.wrap (a0.tdiv 128) = a0 / 128 ∧ (a0 / 128).tmod 2 = a0 / 128 % 2 ∧ wrap64 (a0 / 256) = a0 / 256 := by
  have e1 : Int.tdiv a0 256 = a0 / 256 := Int.tdiv_eq_ediv_of_nonneg h.1
  have e3 : Int.tdiv a0 128 = a0 / 128 := Int.tdiv_eq_ediv_of_nonneg h.1
  refine ⟨?_, ?_, Int.tmod_eq_emod_of_nonneg (by omega), by unfold wrap64; omega⟩
  · rw [e1]; simp [IntKind.wrap, IntKind.signed, IntKind.bits]; omega
  · rw [e3]; simp [IntKind.wrap, IntKind.signed, IntKind.bits]; omega
set_option maxHeartbeats 8000000 in
set_option maxRecDepth 100000 in
theorem catchmentref07_Unpack.walkA (a0 q d : Int) (w : World) (h0 : 0 ≤ a0) (e1 : IntKind.u64.wrap (a0.tdiv 256) = q) (e2 : IntKind.u64.wrap (a0.tdiv 128) = d) (e4 : wrap64 q = q) (f0 : decide (1099511627776 < q) = true) (g0 : decide (q ≤ 1099511627776) = false) :
    Calls Try.prog 59 #[.int .u64 a0] w fun e w' => e = .returned (.tuple #[.agg #[.int .i64 0, .int .i64 0, .bool false], .int .i64 3]) ∧ Below w.heap.size w w' := by
  go_enter Try.func59, Try.ntmps59
  go_wp2
  all_goals exact bodyPost_ret (v := .tuple #[.agg #[.int .i64 0, .int .i64 0, .bool false], .int .i64 3]) (by simp [results, Try.results59, go_sem]) rfl ⟨rfl, by repeat (first | exact Below.refl _ _ | apply below_alloc | refine below_set ?_ (by simp))⟩
set_option maxHeartbeats 8000000 in
set_option maxRecDepth 100000 in
theorem catchmentref07_Unpack.walkB (a0 q d : Int) (w : World) (h0 : 0 ≤ a0) (e1 : IntKind.u64.wrap (a0.tdiv 256) = q) (e2 : IntKind.u64.wrap (a0.tdiv 128) = d) (e4 : wrap64 q = q) (f0 : decide (1099511627776 < q) = false) (g0 : decide (q ≤ 1099511627776) = true) (f1 : decide (64 < (a0 % 128)) = true) (g1 : decide ((a0 % 128) ≤ 64) = false) :
    Calls Try.prog 59 #[.int .u64 a0] w fun e w' => e = .returned (.tuple #[.agg #[.int .i64 0, .int .i64 0, .bool false], .int .i64 3]) ∧ Below w.heap.size w w' := by
  go_enter Try.func59, Try.ntmps59
  go_wp2
  all_goals exact bodyPost_ret (v := .tuple #[.agg #[.int .i64 0, .int .i64 0, .bool false], .int .i64 3]) (by simp [results, Try.results59, go_sem]) rfl ⟨rfl, by repeat (first | exact Below.refl _ _ | apply below_alloc | refine below_set ?_ (by simp))⟩
set_option maxHeartbeats 8000000 in
set_option maxRecDepth 100000 in
theorem catchmentref07_Unpack.walkC (a0 q d : Int) (w : World) (h0 : 0 ≤ a0) (e1 : IntKind.u64.wrap (a0.tdiv 256) = q) (e2 : IntKind.u64.wrap (a0.tdiv 128) = d) (e4 : wrap64 q = q) (f0 : decide (1099511627776 < q) = false) (g0 : decide (q ≤ 1099511627776) = true) (f1 : decide (64 < (a0 % 128)) = false) (g1 : decide ((a0 % 128) ≤ 64) = true) (f2 : decide (0 < (a0 % 128)) = true) (g2 : decide ((a0 % 128) ≤ 0) = false) (eb : (d.tmod 2 == 1) = true) :
    Calls Try.prog 59 #[.int .u64 a0] w fun e w' => e = .returned (.tuple #[.agg #[.int .i64 0, .int .i64 0, .bool false], .int .i64 3]) ∧ Below w.heap.size w w' := by
  go_enter Try.func59, Try.ntmps59
  go_wp2
  exact bodyPost_ret (v := .tuple #[.agg #[.int .i64 0, .int .i64 0, .bool false], .int .i64 3]) (by simp [results, Try.results59, go_sem]) rfl ⟨rfl, by repeat (first | exact Below.refl _ _ | apply below_alloc | refine below_set ?_ (by simp))⟩
set_option maxHeartbeats 8000000 in
set_option maxRecDepth 100000 in
theorem catchmentref07_Unpack.walkD (a0 q d : Int) (w : World) (h0 : 0 ≤ a0) (e1 : IntKind.u64.wrap (a0.tdiv 256) = q) (e2 : IntKind.u64.wrap (a0.tdiv 128) = d) (e4 : wrap64 q = q) (f0 : decide (1099511627776 < q) = false) (g0 : decide (q ≤ 1099511627776) = true) (f1 : decide (64 < (a0 % 128)) = false) (g1 : decide ((a0 % 128) ≤ 64) = true) (f2 : decide (0 < (a0 % 128)) = false) (g2 : decide ((a0 % 128) ≤ 0) = true) (eb : (d.tmod 2 == 1) = true) :
    Calls Try.prog 59 #[.int .u64 a0] w fun e w' => e = .returned (.tuple #[.agg #[.int .i64 q, .int .i64 (a0 % 128), .bool true], .int .i64 0]) ∧ Below w.heap.size w w' := by
  go_enter Try.func59, Try.ntmps59
  go_wp2
  exact bodyPost_ret (v := .tuple #[.agg #[.int .i64 q, .int .i64 (a0 % 128), .bool true], .int .i64 0]) (by simp [results, Try.results59, go_sem]) rfl ⟨rfl, by repeat (first | exact Below.refl _ _ | apply below_alloc | refine below_set ?_ (by simp))⟩
set_option maxHeartbeats 8000000 in
set_option maxRecDepth 100000 in
theorem catchmentref07_Unpack.walkE (a0 q d : Int) (w : World) (h0 : 0 ≤ a0) (e1 : IntKind.u64.wrap (a0.tdiv 256) = q) (e2 : IntKind.u64.wrap (a0.tdiv 128) = d) (e4 : wrap64 q = q) (f0 : decide (1099511627776 < q) = false) (g0 : decide (q ≤ 1099511627776) = true) (f1 : decide (64 < (a0 % 128)) = false) (g1 : decide ((a0 % 128) ≤ 64) = true) (eb : (d.tmod 2 == 1) = false) :
    Calls Try.prog 59 #[.int .u64 a0] w fun e w' => e = .returned (.tuple #[.agg #[.int .i64 q, .int .i64 (a0 % 128), .bool false], .int .i64 0]) ∧ Below w.heap.size w w' := by
  go_enter Try.func59, Try.ntmps59
  go_wp2
  exact bodyPost_ret (v := .tuple #[.agg #[.int .i64 q, .int .i64 (a0 % 128), .bool false], .int .i64 0]) (by simp [results, Try.results59, go_sem]) rfl ⟨rfl, by repeat (first | exact Below.refl _ _ | apply below_alloc | refine below_set ?_ (by simp))⟩
theorem catchmentref07_Unpack.calls (a0 : Int) (r1 : Int) (r2 : Int) (r3 : Bool) (r4 : Int) (w : World) (h : catchmentref07_Unpack.f a0 = some (r1, r2, r3, r4)) :
    Calls Try.prog 59 #[.int .u64 a0] w fun e w' => e = .returned (.tuple #[.agg #[.int .i64 r1, .int .i64 r2, .bool r3], .int .i64 r4]) ∧ Below w.heap.size w w' := by
  unfold catchmentref07_Unpack.f at h
  by_cases hb : 0 ≤ a0 ∧ a0 ≤ 18446744073709551615
  · rw [if_pos hb] at h
    obtain ⟨e1, e2, e3, e4⟩ := catchmentref07_Unpack.nums hb
    have h0 := hb.1
    clear hb
    by_cases c1 : a0 / 256 > 1099511627776
    · rw [if_pos c1] at h
      obtain ⟨rfl, rfl, rfl, rfl⟩ : 0 = r1 ∧ 0 = r2 ∧ false = r3 ∧ 3 = r4 := by simpa using h
      exact catchmentref07_Unpack.walkA a0 _ _ w h0 e1 e2 e4 (decide_eq_true c1) (decide_eq_false (by omega))
    · rw [if_neg c1] at h
      by_cases c2 : a0 % 128 > 64
      · rw [if_pos c2] at h
        obtain ⟨rfl, rfl, rfl, rfl⟩ : 0 = r1 ∧ 0 = r2 ∧ false = r3 ∧ 3 = r4 := by simpa using h
        exact catchmentref07_Unpack.walkB a0 _ _ w h0 e1 e2 e4 (decide_eq_false c1) (decide_eq_true (by omega)) (decide_eq_true c2) (decide_eq_false (by omega))
      · rw [if_neg c2] at h
        by_cases c3 : a0 / 128 % 2 = 1
        · rw [if_pos c3] at h
          by_cases c4 : a0 % 128 > 0
          · rw [if_pos c4] at h
            obtain ⟨rfl, rfl, rfl, rfl⟩ : 0 = r1 ∧ 0 = r2 ∧ false = r3 ∧ 3 = r4 := by simpa using h
            exact catchmentref07_Unpack.walkC a0 _ _ w h0 e1 e2 e4 (decide_eq_false c1) (decide_eq_true (by omega)) (decide_eq_false c2) (decide_eq_true (by omega)) (decide_eq_true c4) (decide_eq_false (by omega)) (by rw [e3, c3]; rfl)
          · rw [if_neg c4] at h
            obtain ⟨rfl, rfl, rfl, rfl⟩ : a0 / 256 = r1 ∧ a0 % 128 = r2 ∧ true = r3 ∧ 0 = r4 := by simpa using h
            exact catchmentref07_Unpack.walkD a0 _ _ w h0 e1 e2 e4 (decide_eq_false c1) (decide_eq_true (by omega)) (decide_eq_false c2) (decide_eq_true (by omega)) (decide_eq_false c4) (decide_eq_true (by omega)) (by rw [e3, c3]; rfl)
        · rw [if_neg c3] at h
          obtain ⟨rfl, rfl, rfl, rfl⟩ : a0 / 256 = r1 ∧ a0 % 128 = r2 ∧ false = r3 ∧ 0 = r4 := by simpa using h
          exact catchmentref07_Unpack.walkE a0 _ _ w h0 e1 e2 e4 (decide_eq_false c1) (decide_eq_true (by omega)) (decide_eq_false c2) (decide_eq_true (by omega)) (by rw [e3]; simpa using c3)
  · rw [if_neg hb] at h
    exact absurd h (by simp)

end Go.Proofs.Ytdlhiadekgnieaa.Q1
