-- written by a program of this session (wip/myprint.py), over the kit's printer and the session's own contracts
import Derived.Test.YtnklnjghecmihaaH3x0
namespace Go.Proofs.Ytnklnjghecmihaa.H3
open Go.RowKit Go.Proofs.YtnklnjghecmihaaW.PrintWords Go.Proofs.YtnklnjghecmihaaW.PrintLast Go.Proofs.YtnklnjghecmihaaW.PrintMore Go.Proofs.YtnklnjghecmihaaW.Mine
attribute [local go_sem] max2_int min2_int max_two min_two max_three min_three max_four min_four max2_str min2_str binOp_gtr_str binOp_leq_str binOp_geq_str   -- for this text's walks alone
set_option linter.unusedVariables false
set_option linter.unusedSimpArgs false

/-! ### api_Entry: function 87 -/
open Go.Proofs.YtnklnjghecmihaaW.Sl
theorem api_Entry.info : (Try.prog.info? 25).map (fun i => (i.zero, i.size, i.bytes)) = some (some (.agg #[(.string ⟨#[]⟩), (.string ⟨#[]⟩)]), 2, 32) := by kernel_rfl
theorem api_Entry.flat : Flat k25 := by first | exact flat_string | exact flat_int _ | exact flat_bool | exact flat_iso (by repeat (first | exact flat_string | exact flat_int _ | exact flat_bool | refine flat_pair ?_ ?_)) _
theorem api_Entry.isNil (A : Option Addr) (n c : Nat) (w : World) : Sem.run Try.prog (binOp .eql 22 (.slice A n c) (.slice none 0 0)) w = .ok (.bool A.isNone) w := by cases A <;> kernel_rfl
attribute [local go_sem] api_Entry.isNil
def api_Entry.f (l0 : List S25) : Option (List S25) := if l0.length < 1000000 then some l0 else none
set_option maxHeartbeats 4000000 in
set_option maxRecDepth 100000 in
theorem api_Entry.calls (A0 : Option Addr) (c0 : Nat) (l0 : List S25) (r : List S25) (w : World) (hr0 : Kd.C k25 w A0 l0.length l0) (hc0 : l0.length ≤ c0) (h : api_Entry.f l0 = some r) :
    Calls Try.prog 87 #[.slice A0 l0.length c0] w fun e w' => ∃ v0_ : Value, e = .returned (v0_) ∧ Kd.R k25 25 w' w.heap.size (fun _ => True) v0_ r ∧ Below w.heap.size w w' := by
  unfold api_Entry.f at h
  by_cases hl : l0.length < 1000000
  · rw [if_pos hl] at h
    obtain rfl := Option.some.inj h
    clear h
    cases A0 with
    | none =>
      have h0 : l0 = [] := by
        rcases Nat.eq_zero_or_pos l0.length with h0 | h0
        · exact List.eq_nil_of_length_eq_zero h0
        · obtain ⟨ad, h, _⟩ := hr0.2.2 h0
          cases h
      subst h0
      clear hr0
      go_enter Try.func87, Try.ntmps87
      go_wp2
      go_ret
      exact ⟨_, rfl, Kd.R_nil _ _ _ _ _, Below.refl _ _⟩
    | some ad =>
      rcases Nat.eq_zero_or_pos l0.length with h0 | h0
      · have h1 : l0 = [] := List.eq_nil_of_length_eq_zero h0
        subst h1
        clear hr0
        go_enter Try.func87, Try.ntmps87
        go_wp2
        go_ret
        exact ⟨_, rfl, grown_nil k25 25 _ 0 (by unfold maxLen; omega) (by simp), (Below.refl _ w).alloc (Nat.le_refl _) _⟩
      · have hrun := R_append_run (P := Try.prog) k25 api_Entry.flat (by decide) (W := w.alloc (.cells #[] 25)) 22 22 25 _ 32 Try.underlying22 api_Entry.info rfl (by decide) (xs := []) (A := some ⟨w.heap.size, 0, none⟩) (n := 0) (cap := 0) ⟨rfl, by omega, fun h => absurd h (by omega)⟩ (fun h => by cases h) (m := l0.length) (c := c0) (Kd.C_alloc hr0 _) (by omega) (by omega)
        have HRUN := Aside0.mk hrun
        clear hrun hr0
        go_enter Try.func87, Try.ntmps87
        go_wp2_with (at_builtin; refine wpList_append_ex _ rfl _ _ _ _ rfl _ _ rfl rfl HRUN.out ?_; rintro v' w' ⟨hR, hB⟩)
        go_ret
        exact ⟨_, rfl, Kd.R_lower hR (by simp), below_step ((Below.refl _ w).alloc (Nat.le_refl _) _) hB⟩
  · rw [if_neg hl] at h
    cases h

end Go.Proofs.Ytnklnjghecmihaa.H3
