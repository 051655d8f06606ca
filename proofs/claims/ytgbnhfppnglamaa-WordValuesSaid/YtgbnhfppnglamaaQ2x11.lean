-- written by a program of this session (wip/myprint.py), over the kit's printer and the session's own contracts
import Derived.Test.YtgbnhfppnglamaaQ2x0
import Derived.Test.YtgbnhfppnglamaaQ2x2
import Derived.Test.YtgbnhfppnglamaaQ2x3
import Derived.Test.YtgbnhfppnglamaaQ2x4
import Derived.Test.YtgbnhfppnglamaaQ2x5
import Derived.Test.YtgbnhfppnglamaaQ2x8
import Derived.Test.YtgbnhfppnglamaaQ2x9
import Derived.Test.YtgbnhfppnglamaaQ2x10
namespace Go.Proofs.Ytgbnhfppnglamaa.Q2
open Go.RowKit Go.Proofs.YtgbnhfppnglamaaW.PrintWords Go.Proofs.YtgbnhfppnglamaaW.PrintLast Go.Proofs.YtgbnhfppnglamaaW.PrintMore Go.Proofs.YtgbnhfppnglamaaW.Mine
attribute [local go_sem] max2_int min2_int max_two min_two max_three min_three max_four min_four max2_str min2_str binOp_gtr_str binOp_leq_str binOp_geq_str   -- for this text's walks alone
set_option linter.unusedVariables false
set_option linter.unusedSimpArgs false

/-! ### catchmentlaw03_WordValues: function 3 -/
def catchmentlaw03_WordValues.f (k : Nat) (a0 : ByteArray) (a1 : Bool) (a2 : Int) : Option (Bool) := (word_Take.f k a0).bind fun bt124 => ((catchmentref03_Take.f k a0).bind fun bt126 => ((catchmentlaw03_live.f k).bind fun t128 => (if t128 = true then (if bt124.1 = bt126.1 then (if (bt124.2 == bt126.2) = true then ((word_Put.f a2).bind fun t129 => ((catchmentref03_Put.f k a2).bind fun t130 => (if t129.toList = t130.toList then ((word_Add.f k a0 a1 a2).bind fun t131 => ((catchmentref03_Add.f k a0 a1 a2).bind fun t132 => (some (t131.toList == t132.toList)))) else (none)))) else (none)) else (none)) else (none))))
theorem catchmentlaw03_WordValues.mono : ∀ a0 a1 a2 k, LeO (catchmentlaw03_WordValues.f k a0 a1 a2) (catchmentlaw03_WordValues.f (k + 1) a0 a1 a2) := by
  intro a0 a1 a2 k
  unfold catchmentlaw03_WordValues.f
  repeat' first
      | (with_reducible exact catchmentlaw03_live.mono _)
      | (with_reducible exact catchmentref03_Add.mono _ _ _ _)
      | (with_reducible exact catchmentref03_Put.mono _ _)
      | (with_reducible exact catchmentref03_Take.mono _ _)
      | (with_reducible exact word_Add.mono _ _ _ _)
      | (with_reducible exact word_Take.mono _ _)
      | (with_reducible exact LeO.refl _)
      | (with_reducible exact LeO.none _)
      | (with_reducible refine LeO.ite ?_ ?_)
      | (with_reducible refine LeO.bind ?_ (fun _ => ?_))
      | exact catchmentlaw03_live.mono _
      | exact catchmentref03_Add.mono _ _ _ _
      | exact catchmentref03_Put.mono _ _
      | exact catchmentref03_Take.mono _ _
      | exact word_Add.mono _ _ _ _
      | exact word_Take.mono _ _
      | exact LeO.none _
      | refine LeO.ite ?_ ?_
      | refine LeO.bind ?_ (fun _ => ?_)
set_option maxHeartbeats 8000000 in
set_option maxRecDepth 100000 in
theorem catchmentlaw03_WordValues.calls (k : Nat) (a0 : ByteArray) (a1 : Bool) (a2 : Int) (r : Bool) (w : World) (h : catchmentlaw03_WordValues.f k a0 a1 a2 = some r) :
    Calls Try.prog 3 #[.string a0, .bool a1, .int .u64 a2] w fun e w' => e = .returned (.bool r) ∧ Below w.heap.size w w' := by
  have HB := Aside0.mk (Below.refl w.heap.size w)
  have H : ((word_Take.f k a0).bind fun bt124 => ((catchmentref03_Take.f k a0).bind fun bt126 => ((catchmentlaw03_live.f k).bind fun t128 => (if t128 = true then (if bt124.1 = bt126.1 then (if (bt124.2 == bt126.2) = true then ((word_Put.f a2).bind fun t129 => ((catchmentref03_Put.f k a2).bind fun t130 => (if t129.toList = t130.toList then ((word_Add.f k a0 a1 a2).bind fun t131 => ((catchmentref03_Add.f k a0 a1 a2).bind fun t132 => (some (t131.toList == t132.toList)))) else (none)))) else (none)) else (none)) else (none))))) = some r := h
  clear h
  replace H := Option.bind_eq_some_iff.mp H
  obtain ⟨⟨t124, t125⟩, A40, H⟩ := H
  replace H : ((catchmentref03_Take.f k a0).bind fun bt126 => ((catchmentlaw03_live.f k).bind fun t128 => (if t128 = true then (if t124 = bt126.1 then (if (t125 == bt126.2) = true then ((word_Put.f a2).bind fun t129 => ((catchmentref03_Put.f k a2).bind fun t130 => (if t129.toList = t130.toList then ((word_Add.f k a0 a1 a2).bind fun t131 => ((catchmentref03_Add.f k a0 a1 a2).bind fun t132 => (some (t131.toList == t132.toList)))) else (none)))) else (none)) else (none)) else (none)))) = some r := H
  have A4 := Aside0.mk A40
  clear A40
  replace H := Option.bind_eq_some_iff.mp H
  obtain ⟨⟨t126, t127⟩, A50, H⟩ := H
  replace H : ((catchmentlaw03_live.f k).bind fun t128 => (if t128 = true then (if t124 = t126 then (if (t125 == t127) = true then ((word_Put.f a2).bind fun t129 => ((catchmentref03_Put.f k a2).bind fun t130 => (if t129.toList = t130.toList then ((word_Add.f k a0 a1 a2).bind fun t131 => ((catchmentref03_Add.f k a0 a1 a2).bind fun t132 => (some (t131.toList == t132.toList)))) else (none)))) else (none)) else (none)) else (none))) = some r := H
  have A5 := Aside0.mk A50
  clear A50
  replace H := Option.bind_eq_some_iff.mp H
  obtain ⟨t128, A60, H⟩ := H
  replace H : (if t128 = true then (if t124 = t126 then (if (t125 == t127) = true then ((word_Put.f a2).bind fun t129 => ((catchmentref03_Put.f k a2).bind fun t130 => (if t129.toList = t130.toList then ((word_Add.f k a0 a1 a2).bind fun t131 => ((catchmentref03_Add.f k a0 a1 a2).bind fun t132 => (some (t131.toList == t132.toList)))) else (none)))) else (none)) else (none)) else (none)) = some r := H
  have A6 := Aside0.mk A60
  clear A60
  by_cases c7 : t128 = true
  · subst c7
    have H1 : (if t124 = t126 then (if (t125 == t127) = true then ((word_Put.f a2).bind fun t129 => ((catchmentref03_Put.f k a2).bind fun t130 => (if t129.toList = t130.toList then ((word_Add.f k a0 a1 a2).bind fun t131 => ((catchmentref03_Add.f k a0 a1 a2).bind fun t132 => (some (t131.toList == t132.toList)))) else (none)))) else (none)) else (none)) = some r := by rw [if_pos rfl] at H; exact H
    clear H
    have H := H1
    clear H1
    by_cases c8 : t124 = t126
    · rw [if_pos c8] at H
      have c8b0 : (t124 == t126) = true := beq_iff_eq.mpr c8
      have c8b1 : (t124 != t126) = false := bne_eq_false_iff_eq.mpr c8
      clear c8
      by_cases c9 : (t125 == t127) = true
      · rw [if_pos c9] at H
        have c9b0 : (t125 == t127) = true := c9
        (try (have c9b1 : decide (t125 = t127) = true := by simpa using c9))
        (try (have c9b2 : (t125 == t127) = true := by simpa using c9))
        clear c9
        replace H := Option.bind_eq_some_iff.mp H
        obtain ⟨t129, A100, H⟩ := H
        replace H : ((catchmentref03_Put.f k a2).bind fun t130 => (if t129.toList = t130.toList then ((word_Add.f k a0 a1 a2).bind fun t131 => ((catchmentref03_Add.f k a0 a1 a2).bind fun t132 => (some (t131.toList == t132.toList)))) else (none))) = some r := H
        have A10 := Aside0.mk A100
        clear A100
        replace H := Option.bind_eq_some_iff.mp H
        obtain ⟨t130, A110, H⟩ := H
        replace H : (if t129.toList = t130.toList then ((word_Add.f k a0 a1 a2).bind fun t131 => ((catchmentref03_Add.f k a0 a1 a2).bind fun t132 => (some (t131.toList == t132.toList)))) else (none)) = some r := H
        have A11 := Aside0.mk A110
        clear A110
        by_cases c12 : t129.toList = t130.toList
        · rw [if_pos c12] at H
          have c12b0 : (t129.toList == t130.toList) = true := beq_iff_eq.mpr c12
          have c12b1 : (t129.toList != t130.toList) = false := bne_eq_false_iff_eq.mpr c12
          clear c12
          replace H := Option.bind_eq_some_iff.mp H
          obtain ⟨t131, A130, H⟩ := H
          replace H : ((catchmentref03_Add.f k a0 a1 a2).bind fun t132 => (some (t131.toList == t132.toList))) = some r := H
          have A13 := Aside0.mk A130
          clear A130
          replace H := Option.bind_eq_some_iff.mp H
          obtain ⟨t132, A140, H⟩ := H
          replace H : (some (t131.toList == t132.toList)) = some r := H
          have A14 := Aside0.mk A140
          clear A140
          obtain rfl := Option.some.inj H
          go_enter Try.func3, Try.ntmps3
          go_wp2_with (first | ((with_reducible refine gate_callee (f := 15) rfl ?_); refine goesL_ (some 13) rfl rfl Try.func15 (by kernel_rfl) rfl #[.string a0] rfl (by (try simp only [List.map_toArray, List.map_cons, List.map_nil]); first | done | rfl | (simp only [List.length_drop, List.length_take]; rfl)) ?_; (with_reducible refine (word_Take.calls k a0 t124 t125 _ A4.out).mono ?_); rintro e w' ⟨rfl, ⟨nd, rfl⟩⟩; refine ⟨_, rfl, ?_⟩) | ((with_reducible refine gate_callee (f := 16) rfl ?_); refine goesL_ (some 18) rfl rfl Try.func16 (by kernel_rfl) rfl #[.string a0] rfl (by (try simp only [List.map_toArray, List.map_cons, List.map_nil]); first | done | rfl | (simp only [List.length_drop, List.length_take]; rfl)) ?_; (with_reducible refine (catchmentref03_Take.calls k a0 t126 t127 _ A5.out).mono ?_); rintro e w' ⟨rfl, ⟨nd, rfl⟩⟩; refine ⟨_, rfl, ?_⟩) | ((with_reducible refine gate_callee (f := 17) rfl ?_); refine goesL_ (some 21) rfl rfl Try.func17 (by kernel_rfl) rfl #[] rfl (by (try simp only [List.map_toArray, List.map_cons, List.map_nil]); first | done | rfl | (simp only [List.length_drop, List.length_take]; rfl)) ?_; (with_reducible refine (catchmentlaw03_live.calls k  true _ A6.out).mono ?_); rintro e w15 ⟨rfl, hb⟩; refine ⟨_, rfl, ?_⟩; have n0_ := Aside0.mk (below_step (by repeat (first | (with_reducible first | exact HB.out | apply below_alloc | apply pw_below_drewN | apply below_drew1) | exact HB.out)) hb); clear HB; have HB := n0_; clear n0_; (try clear hb); (try clear hb2); (try clear hk); (try clear hi)) | (go_at_call 18; (with_reducible refine (word_Put.calls a2 t129 _ A10.out).mono ?_); rintro e w16 ⟨rfl, hb⟩; have n0_ := Aside0.mk (below_step (by repeat (first | (with_reducible first | exact HB.out | apply below_alloc | apply pw_below_drewN | apply below_drew1) | exact HB.out)) hb); clear HB; have HB := n0_; clear n0_; (try clear hb); (try clear hb2); (try clear hk); (try clear hi)) | (go_at_call 19; (with_reducible refine (catchmentref03_Put.calls k a2 t130 _ A11.out).mono ?_); rintro e w17 ⟨rfl, hb⟩; have n0_ := Aside0.mk (below_step (by repeat (first | (with_reducible first | exact HB.out | apply below_alloc | apply pw_below_drewN | apply below_drew1) | exact HB.out)) hb); clear HB; have HB := n0_; clear n0_; (try clear hb); (try clear hb2); (try clear hk); (try clear hi)) | (go_at_call 20; (with_reducible refine (word_Add.calls k a0 a1 a2 t131 _ A13.out).mono ?_); rintro e w18 ⟨rfl, hb⟩; have n0_ := Aside0.mk (below_step (by repeat (first | (with_reducible first | exact HB.out | apply below_alloc | apply pw_below_drewN | apply below_drew1) | exact HB.out)) hb); clear HB; have HB := n0_; clear n0_; (try clear hb); (try clear hb2); (try clear hk); (try clear hi)) | (go_at_call 21; (with_reducible refine (catchmentref03_Add.calls k a0 a1 a2 t132 _ A14.out).mono ?_); rintro e w19 ⟨rfl, hb⟩; have n0_ := Aside0.mk (below_step (by repeat (first | (with_reducible first | exact HB.out | apply below_alloc | apply pw_below_drewN | apply below_drew1) | exact HB.out)) hb); clear HB; have HB := n0_; clear n0_; (try clear hb); (try clear hb2); (try clear hk); (try clear hi)))
          go_ret
          exact ⟨by first | rfl | (simp [errW_none, errW_some] <;> rfl) | (simp [*, errW_none, errW_some] <;> rfl), by repeat (first | (with_reducible first | exact HB.out | apply below_alloc | apply pw_below_drewN | apply below_drew1) | exact HB.out)⟩
        · rw [if_neg c12] at H
          exact absurd H (by simp)
      · rw [if_neg c9] at H
        exact absurd H (by simp)
    · rw [if_neg c8] at H
      exact absurd H (by simp)
  · replace c7 := Bool.eq_false_iff.mpr c7
    subst c7
    have H1 : (none) = some r := by rw [if_neg (show ¬ (false = true) by decide)] at H; exact H
    clear H
    have H := H1
    clear H1
    exact absurd H (by simp)
/-- THE ONE PURE STATEMENT of catchmentlaw03_WordValues. -/
def catchmentlaw03_WordValues.Pure : Prop := ∀ (a0 : ByteArray) (a1 : Bool) (a2 : Int), (fun s : ByteArray => s.size ≤ 140737488351232) a0 → (fun x : Int => (Lit.int .u64 x).wf = true) a2 → ∃ k, catchmentlaw03_WordValues.f k a0 a1 a2 = some true
theorem catchmentlaw03_WordValues.walk (P : catchmentlaw03_WordValues.Pure) (a0 : ByteArray) (a1 : Bool) (a2 : Int) (w : World)  (ok_0 : (fun s : ByteArray => s.size ≤ 140737488351232) a0) (ok_2 : (fun x : Int => (Lit.int .u64 x).wf = true) a2) :
    Calls Try.prog 3 #[.string a0, .bool a1, .int .u64 a2] w fun e w' => e = .returned (.bool true) ∧ Below w.heap.size w w' := by
  obtain ⟨k, h⟩ := P a0 a1 a2 ok_0 ok_2
  refine (catchmentlaw03_WordValues.calls k a0 a1 a2 true w h).mono ?_
  rintro e w' ⟨rfl, hd⟩
  exact ⟨rfl, hd⟩

end Go.Proofs.Ytgbnhfppnglamaa.Q2
