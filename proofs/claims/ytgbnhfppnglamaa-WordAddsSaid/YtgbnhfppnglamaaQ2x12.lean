-- written by a program of this session (wip/myprint.py), over the kit's printer and the session's own contracts
import Derived.Test.YtgbnhfppnglamaaQ2x0
import Derived.Test.YtgbnhfppnglamaaQ2x5
import Derived.Test.YtgbnhfppnglamaaQ2x8
namespace Go.Proofs.Ytgbnhfppnglamaa.Q2
open Go.RowKit Go.Proofs.YtgbnhfppnglamaaW.PrintWords Go.Proofs.YtgbnhfppnglamaaW.PrintLast Go.Proofs.YtgbnhfppnglamaaW.PrintMore Go.Proofs.YtgbnhfppnglamaaW.Mine
attribute [local go_sem] max2_int min2_int max_two min_two max_three min_three max_four min_four max2_str min2_str binOp_gtr_str binOp_leq_str binOp_geq_str   -- for this text's walks alone
set_option linter.unusedVariables false
set_option linter.unusedSimpArgs false

/-! ### catchmentlaw03_WordAdds: function 4 -/
def catchmentlaw03_WordAdds.f (k : Nat) (a0 : ByteArray) (a1 : Bool) (a2 : Int) (a3 : Int) : Option (Bool) := (catchmentlaw03_live.f k).bind fun t133 => (if t133 = true then ((word_Add.f k a0 a1 a2).bind fun t134 => ((word_Add.f k t134 true a3).bind fun t135 => ((word_Add.f k a0 a1 (IntKind.u64.wrap (a2 + a3))).bind fun t136 => (some (t135.toList == t136.toList))))) else (none))
theorem catchmentlaw03_WordAdds.mono : ∀ a0 a1 a2 a3 k, LeO (catchmentlaw03_WordAdds.f k a0 a1 a2 a3) (catchmentlaw03_WordAdds.f (k + 1) a0 a1 a2 a3) := by
  intro a0 a1 a2 a3 k
  unfold catchmentlaw03_WordAdds.f
  repeat' first
      | (with_reducible exact catchmentlaw03_live.mono _)
      | (with_reducible exact word_Add.mono _ _ _ _)
      | (with_reducible exact LeO.refl _)
      | (with_reducible exact LeO.none _)
      | (with_reducible refine LeO.ite ?_ ?_)
      | (with_reducible refine LeO.bind ?_ (fun _ => ?_))
      | exact catchmentlaw03_live.mono _
      | exact word_Add.mono _ _ _ _
      | exact LeO.none _
      | refine LeO.ite ?_ ?_
      | refine LeO.bind ?_ (fun _ => ?_)
set_option maxHeartbeats 8000000 in
set_option maxRecDepth 100000 in
theorem catchmentlaw03_WordAdds.calls (k : Nat) (a0 : ByteArray) (a1 : Bool) (a2 : Int) (a3 : Int) (r : Bool) (w : World) (h : catchmentlaw03_WordAdds.f k a0 a1 a2 a3 = some r) :
    Calls Try.prog 4 #[.string a0, .bool a1, .int .u64 a2, .int .u64 a3] w fun e w' => e = .returned (.bool r) ∧ Below w.heap.size w w' := by
  have HB := Aside0.mk (Below.refl w.heap.size w)
  have H : ((catchmentlaw03_live.f k).bind fun t133 => (if t133 = true then ((word_Add.f k a0 a1 a2).bind fun t134 => ((word_Add.f k t134 true a3).bind fun t135 => ((word_Add.f k a0 a1 (IntKind.u64.wrap (a2 + a3))).bind fun t136 => (some (t135.toList == t136.toList))))) else (none))) = some r := h
  clear h
  replace H := Option.bind_eq_some_iff.mp H
  obtain ⟨t133, A50, H⟩ := H
  replace H : (if t133 = true then ((word_Add.f k a0 a1 a2).bind fun t134 => ((word_Add.f k t134 true a3).bind fun t135 => ((word_Add.f k a0 a1 (IntKind.u64.wrap (a2 + a3))).bind fun t136 => (some (t135.toList == t136.toList))))) else (none)) = some r := H
  have A5 := Aside0.mk A50
  clear A50
  by_cases c6 : t133 = true
  · subst c6
    have H1 : ((word_Add.f k a0 a1 a2).bind fun t134 => ((word_Add.f k t134 true a3).bind fun t135 => ((word_Add.f k a0 a1 (IntKind.u64.wrap (a2 + a3))).bind fun t136 => (some (t135.toList == t136.toList))))) = some r := by rw [if_pos rfl] at H; exact H
    clear H
    have H := H1
    clear H1
    replace H := Option.bind_eq_some_iff.mp H
    obtain ⟨t134, A70, H⟩ := H
    replace H : ((word_Add.f k t134 true a3).bind fun t135 => ((word_Add.f k a0 a1 (IntKind.u64.wrap (a2 + a3))).bind fun t136 => (some (t135.toList == t136.toList)))) = some r := H
    have A7 := Aside0.mk A70
    clear A70
    replace H := Option.bind_eq_some_iff.mp H
    obtain ⟨t135, A80, H⟩ := H
    replace H : ((word_Add.f k a0 a1 (IntKind.u64.wrap (a2 + a3))).bind fun t136 => (some (t135.toList == t136.toList))) = some r := H
    have A8 := Aside0.mk A80
    clear A80
    replace H := Option.bind_eq_some_iff.mp H
    obtain ⟨t136, A90, H⟩ := H
    replace H : (some (t135.toList == t136.toList)) = some r := H
    have A9 := Aside0.mk A90
    clear A90
    obtain rfl := Option.some.inj H
    go_enter Try.func4, Try.ntmps4
    go_wp2_with (first | ((with_reducible refine gate_callee (f := 17) rfl ?_); refine goesL_ (some 9) rfl rfl Try.func17 (by kernel_rfl) rfl #[] rfl (by (try simp only [List.map_toArray, List.map_cons, List.map_nil]); first | done | rfl | (simp only [List.length_drop, List.length_take]; rfl)) ?_; (with_reducible refine (catchmentlaw03_live.calls k  true _ A5.out).mono ?_); rintro e w10 ⟨rfl, hb⟩; refine ⟨_, rfl, ?_⟩; have n0_ := Aside0.mk (below_step (by repeat (first | (with_reducible first | exact HB.out | apply below_alloc | apply pw_below_drewN | apply below_drew1) | exact HB.out)) hb); clear HB; have HB := n0_; clear n0_; (try clear hb); (try clear hb2); (try clear hk); (try clear hi)) | (go_at_call 20; (with_reducible refine (word_Add.calls k a0 a1 a2 t134 _ A7.out).mono ?_); rintro e w11 ⟨rfl, hb⟩; have n0_ := Aside0.mk (below_step (by repeat (first | (with_reducible first | exact HB.out | apply below_alloc | apply pw_below_drewN | apply below_drew1) | exact HB.out)) hb); clear HB; have HB := n0_; clear n0_; (try clear hb); (try clear hb2); (try clear hk); (try clear hi)) | (go_at_call 20; (with_reducible refine (word_Add.calls k t134 true a3 t135 _ A8.out).mono ?_); rintro e w12 ⟨rfl, hb⟩; have n0_ := Aside0.mk (below_step (by repeat (first | (with_reducible first | exact HB.out | apply below_alloc | apply pw_below_drewN | apply below_drew1) | exact HB.out)) hb); clear HB; have HB := n0_; clear n0_; (try clear hb); (try clear hb2); (try clear hk); (try clear hi)) | (go_at_call 20; (with_reducible refine (word_Add.calls k a0 a1 (IntKind.u64.wrap (a2 + a3)) t136 _ A9.out).mono ?_); rintro e w13 ⟨rfl, hb⟩; have n0_ := Aside0.mk (below_step (by repeat (first | (with_reducible first | exact HB.out | apply below_alloc | apply pw_below_drewN | apply below_drew1) | exact HB.out)) hb); clear HB; have HB := n0_; clear n0_; (try clear hb); (try clear hb2); (try clear hk); (try clear hi)))
    go_ret
    exact ⟨by first | rfl | (simp [errW_none, errW_some] <;> rfl) | (simp [*, errW_none, errW_some] <;> rfl), by repeat (first | (with_reducible first | exact HB.out | apply below_alloc | apply pw_below_drewN | apply below_drew1) | exact HB.out)⟩
  · replace c6 := Bool.eq_false_iff.mpr c6
    subst c6
    have H1 : (none) = some r := by rw [if_neg (show ¬ (false = true) by decide)] at H; exact H
    clear H
    have H := H1
    clear H1
    exact absurd H (by simp)
/-- THE ONE PURE STATEMENT of catchmentlaw03_WordAdds. -/
def catchmentlaw03_WordAdds.Pure : Prop := ∀ (a0 : ByteArray) (a1 : Bool) (a2 : Int) (a3 : Int), (fun s : ByteArray => s.size ≤ 140737488351232) a0 → (fun x : Int => (Lit.int .u64 x).wf = true) a2 → (fun x : Int => (Lit.int .u64 x).wf = true) a3 → ∃ k, catchmentlaw03_WordAdds.f k a0 a1 a2 a3 = some true
theorem catchmentlaw03_WordAdds.walk (P : catchmentlaw03_WordAdds.Pure) (a0 : ByteArray) (a1 : Bool) (a2 : Int) (a3 : Int) (w : World)  (ok_0 : (fun s : ByteArray => s.size ≤ 140737488351232) a0) (ok_2 : (fun x : Int => (Lit.int .u64 x).wf = true) a2) (ok_3 : (fun x : Int => (Lit.int .u64 x).wf = true) a3) :
    Calls Try.prog 4 #[.string a0, .bool a1, .int .u64 a2, .int .u64 a3] w fun e w' => e = .returned (.bool true) ∧ Below w.heap.size w w' := by
  obtain ⟨k, h⟩ := P a0 a1 a2 a3 ok_0 ok_2 ok_3
  refine (catchmentlaw03_WordAdds.calls k a0 a1 a2 a3 true w h).mono ?_
  rintro e w' ⟨rfl, hd⟩
  exact ⟨rfl, hd⟩

end Go.Proofs.Ytgbnhfppnglamaa.Q2
