-- written by a program of this session (wip/myprint.py), over the kit's printer and the session's own contracts
import Derived.Test.YtgbnhfppnglamaaQ2x0
import Derived.Test.YtgbnhfppnglamaaQ2x6
import Derived.Test.YtgbnhfppnglamaaQ2x7
import Derived.Test.YtgbnhfppnglamaaQ2x8
import Derived.Test.YtgbnhfppnglamaaQ2x13
import Derived.Test.YtgbnhfppnglamaaQ2x14
import Derived.Test.YtgbnhfppnglamaaQ2x15
import Derived.Test.YtgbnhfppnglamaaQ2x16
import Derived.Test.YtgbnhfppnglamaaQ2x17
import Derived.Test.YtgbnhfppnglamaaQ2x18
import Derived.Test.YtgbnhfppnglamaaQ2x19
namespace Go.Proofs.Ytgbnhfppnglamaa.Q2
open Go.RowKit Go.Proofs.YtgbnhfppnglamaaW.PrintWords Go.Proofs.YtgbnhfppnglamaaW.PrintLast Go.Proofs.YtgbnhfppnglamaaW.PrintMore Go.Proofs.YtgbnhfppnglamaaW.Mine
attribute [local go_sem] max2_int min2_int max_two min_two max_three min_three max_four min_four max2_str min2_str binOp_gtr_str binOp_leq_str binOp_geq_str   -- for this text's walks alone
set_option linter.unusedVariables false
set_option linter.unusedSimpArgs false

/-! ### catchmentlaw03_WordTakes: function 5 -/
def catchmentlaw03_WordTakes.j0 : Nat → ByteArray → Int → Int → Int → Bool → Option (Bool)
  | 0, _, _, _, _, _ => none
  | k + 1, x0, x1, x2, x3, x33 => if x33 = true then ((catchmentlaw03_live.f k).bind fun t171 => (some t171)) else ((word_TakeNum.f k x0).bind fun bt172 => ((catchmentref03_TakeNum.f k x0).bind fun bt175 => ((word_TakeText.f k x0 x3).bind fun bt178 => ((catchmentref03_TakeText.f k x0 x3).bind fun bt181 => ((word_TakeTexts.f k x0 x2 x3).bind fun bt184 => ((catchmentref03_TakeTexts.f k x0 x2 x3).bind fun bt189 => ((catchmentlaw03_live.f k).bind fun t194 => (if t194 = true then (if bt172.1 = bt175.1 then (if bt172.2.1.toList = bt175.2.1.toList then (if bt172.2.2 = bt175.2.2 then (if bt178.1.toList = bt181.1.toList then (if bt178.2.1.toList = bt181.2.1.toList then (if bt178.2.2 = bt181.2.2 then ((catchmentref03_Same.f k bt184.1 bt189.1).bind fun t195 => (if t195 = true then (if bt184.2.1.toList = bt189.2.1.toList then (if bt184.2.2 = bt189.2.2 then ((word_Num.f k x1).bind fun t196 => ((catchmentref03_Num.f k x1).bind fun t197 => (some (t196.toList == t197.toList)))) else (none)) else (none)) else (none))) else (none)) else (none)) else (none)) else (none)) else (none)) else (none)) else (none)))))))))
def catchmentlaw03_WordTakes.f (k : Nat) (a0 : ByteArray) (a1 : Int) (a2 : Int) (a3 : Int) : Option (Bool) := if (a0.size : Int) > 2000 then (catchmentlaw03_WordTakes.j0 k a0 a1 a2 a3 true) else (catchmentlaw03_WordTakes.j0 k a0 a1 a2 a3 (decide (a2 > 2000)))
theorem catchmentlaw03_WordTakes.mono_l : ∀ k, (∀ y0 y1 y2 y3 y4, LeO (catchmentlaw03_WordTakes.j0 k y0 y1 y2 y3 y4) (catchmentlaw03_WordTakes.j0 (k + 1) y0 y1 y2 y3 y4))
  | 0 => fun _ _ _ _ _ r h => by simp [catchmentlaw03_WordTakes.j0] at h
  | k + 1 => by
    have ih0 := catchmentlaw03_WordTakes.mono_l k
    · intro y0 y1 y2 y3 y4
      unfold catchmentlaw03_WordTakes.j0
      repeat' first
      | (with_reducible exact ih0 _ _ _ _ _)
      | (with_reducible exact catchmentlaw03_live.mono _)
      | (with_reducible exact catchmentref03_Num.mono _ _)
      | (with_reducible exact catchmentref03_Same.mono _ _ _)
      | (with_reducible exact catchmentref03_TakeNum.mono _ _)
      | (with_reducible exact catchmentref03_TakeText.mono _ _ _)
      | (with_reducible exact catchmentref03_TakeTexts.mono _ _ _ _)
      | (with_reducible exact word_Num.mono _ _)
      | (with_reducible exact word_TakeNum.mono _ _)
      | (with_reducible exact word_TakeText.mono _ _ _)
      | (with_reducible exact word_TakeTexts.mono _ _ _ _)
      | (with_reducible exact LeO.refl _)
      | (with_reducible exact LeO.none _)
      | (with_reducible refine LeO.ite ?_ ?_)
      | (with_reducible refine LeO.bind ?_ (fun _ => ?_))
      | exact ih0 _ _ _ _ _
      | exact catchmentlaw03_live.mono _
      | exact catchmentref03_Num.mono _ _
      | exact catchmentref03_Same.mono _ _ _
      | exact catchmentref03_TakeNum.mono _ _
      | exact catchmentref03_TakeText.mono _ _ _
      | exact catchmentref03_TakeTexts.mono _ _ _ _
      | exact word_Num.mono _ _
      | exact word_TakeNum.mono _ _
      | exact word_TakeText.mono _ _ _
      | exact word_TakeTexts.mono _ _ _ _
      | exact LeO.none _
      | refine LeO.ite ?_ ?_
      | refine LeO.bind ?_ (fun _ => ?_)
theorem catchmentlaw03_WordTakes.mono : ∀ a0 a1 a2 a3 k, LeO (catchmentlaw03_WordTakes.f k a0 a1 a2 a3) (catchmentlaw03_WordTakes.f (k + 1) a0 a1 a2 a3) := by
  intro a0 a1 a2 a3 k
  have ih0 := catchmentlaw03_WordTakes.mono_l k
  unfold catchmentlaw03_WordTakes.f
  repeat' first
      | (with_reducible exact ih0 _ _ _ _ _)
      | (with_reducible exact catchmentlaw03_live.mono _)
      | (with_reducible exact catchmentref03_Num.mono _ _)
      | (with_reducible exact catchmentref03_Same.mono _ _ _)
      | (with_reducible exact catchmentref03_TakeNum.mono _ _)
      | (with_reducible exact catchmentref03_TakeText.mono _ _ _)
      | (with_reducible exact catchmentref03_TakeTexts.mono _ _ _ _)
      | (with_reducible exact word_Num.mono _ _)
      | (with_reducible exact word_TakeNum.mono _ _)
      | (with_reducible exact word_TakeText.mono _ _ _)
      | (with_reducible exact word_TakeTexts.mono _ _ _ _)
      | (with_reducible exact LeO.refl _)
      | (with_reducible exact LeO.none _)
      | (with_reducible refine LeO.ite ?_ ?_)
      | (with_reducible refine LeO.bind ?_ (fun _ => ?_))
      | exact ih0 _ _ _ _ _
      | exact catchmentlaw03_live.mono _
      | exact catchmentref03_Num.mono _ _
      | exact catchmentref03_Same.mono _ _ _
      | exact catchmentref03_TakeNum.mono _ _
      | exact catchmentref03_TakeText.mono _ _ _
      | exact catchmentref03_TakeTexts.mono _ _ _ _
      | exact word_Num.mono _ _
      | exact word_TakeNum.mono _ _
      | exact word_TakeText.mono _ _ _
      | exact word_TakeTexts.mono _ _ _ _
      | exact LeO.none _
      | refine LeO.ite ?_ ?_
      | refine LeO.bind ?_ (fun _ => ?_)
set_option maxHeartbeats 8000000 in
set_option maxRecDepth 100000 in
theorem catchmentlaw03_WordTakes.calls (k : Nat) (a0 : ByteArray) (a1 : Int) (a2 : Int) (a3 : Int) (r : Bool) (w : World) (h : catchmentlaw03_WordTakes.f k a0 a1 a2 a3 = some r) :
    Calls Try.prog 5 #[.string a0, .int .i64 a1, .int .i64 a2, .int .i64 a3] w fun e w' => e = .returned (.bool r) ∧ Below w.heap.size w w' := by
  have HB := Aside0.mk (Below.refl w.heap.size w)
  have H : (if (a0.size : Int) > 2000 then (catchmentlaw03_WordTakes.j0 k a0 a1 a2 a3 true) else (catchmentlaw03_WordTakes.j0 k a0 a1 a2 a3 (decide (a2 > 2000)))) = some r := h
  clear h
  have HC5 := Aside0.mk H
  clear H
  go_enter Try.func5, Try.ntmps5
  go_upto_region 1 with (fail)
  go_cut [33] (fun v33 wc => ∃ (kq : Nat) (x33_4 : Bool), v33 = .bool x33_4 ∧ Aside0 (catchmentlaw03_WordTakes.j0 kq a0 a1 a2 a3 x33_4 = some r) ∧ Aside0 (kq ≤ k) ∧ Aside0 (Below w.heap.size w wc))
  case first =>
    have H := HC5.out
    clear HC5
    by_cases c6 : (a0.size : Int) > 2000
    · rw [if_pos c6] at H
      have c6b0 : decide (2000 < (a0.size : Int)) = true := decide_eq_true c6
      have c6b1 : decide (2000 < a0.size) = true := decide_eq_true (by omega)
      clear c6
      (first | rw [c6b0] | (simp only [i64_w, i32_w]; rw [c6b0]) | skip)
      have H' := Aside0.mk H
      clear H
      go_wp2
      go_meet
      case rel => exact ⟨_, (true), (by first | rfl | (simp; done) | (simp [*]; done)), H', ⟨by first | omega | exact Nat.le_refl _⟩, ⟨by repeat (first | (with_reducible first | exact HB.out | apply below_alloc | apply pw_below_drewN | apply below_drew1) | exact HB.out)⟩⟩
    · rw [if_neg c6] at H
      have c6b0 : decide (2000 < (a0.size : Int)) = false := decide_eq_false c6
      have c6b1 : decide (2000 < a0.size) = false := decide_eq_false (by omega)
      clear c6
      (first | rw [c6b0] | (simp only [i64_w, i32_w]; rw [c6b0]) | skip)
      have H' := Aside0.mk H
      clear H
      go_wp2
      go_meet
      case rel => exact ⟨_, (decide (a2 > 2000)), (by first | rfl | (simp; done) | (simp [*]; done)), H', ⟨by first | omega | exact Nat.le_refl _⟩, ⟨by repeat (first | (with_reducible first | exact HB.out | apply below_alloc | apply pw_below_drewN | apply below_drew1) | exact HB.out)⟩⟩
  case rest =>
    clear HC5
    try clear p2
    try clear c5
    try clear c6
    try clear c6b0
    try clear c6b1
    obtain ⟨kq, x33_4, rfl, HA, HJ4, HB⟩ := hcut
    cases kq with
    | zero => exact absurd HA.out (by simp [catchmentlaw03_WordTakes.j0])
    | succ kj4 =>
      have H := HA.out
      clear HA
      simp only [catchmentlaw03_WordTakes.j0] at H
      by_cases c7 : x33_4 = true
      · subst c7
        have H1 : ((catchmentlaw03_live.f kj4).bind fun t171 => (some t171)) = some r := by rw [if_pos rfl] at H; exact H
        clear H
        have H := H1
        clear H1
        replace H := Option.bind_eq_some_iff.mp H
        obtain ⟨t171, A80, H⟩ := H
        replace H : (some t171) = some r := H
        have A8 := Aside0.mk A80
        clear A80
        obtain rfl := Option.some.inj H
        go_wp2_with (first | ((with_reducible refine gate_callee (f := 17) rfl ?_); refine goesL_ (some 34) rfl rfl Try.func17 (by kernel_rfl) rfl #[] rfl (by (try simp only [List.map_toArray, List.map_cons, List.map_nil]); first | done | rfl | (simp only [List.length_drop, List.length_take]; rfl)) ?_; (with_reducible refine (catchmentlaw03_live.calls kj4  t171 _ A8.out).mono ?_); rintro e w9 ⟨rfl, hb⟩; refine ⟨_, rfl, ?_⟩; have n0_ := Aside0.mk (below_step (by repeat (first | (with_reducible first | exact HB.out | apply below_alloc | apply pw_below_drewN | apply below_drew1) | exact HB.out)) hb); clear HB; have HB := n0_; clear n0_; (try clear hb); (try clear hb2); (try clear hk); (try clear hi)))
        go_ret
        exact ⟨by first | rfl | (simp [errW_none, errW_some] <;> rfl) | (simp [*, errW_none, errW_some] <;> rfl), by repeat (first | (with_reducible first | exact HB.out | apply below_alloc | apply pw_below_drewN | apply below_drew1) | exact HB.out)⟩
      · replace c7 := Bool.eq_false_iff.mpr c7
        subst c7
        have H1 : ((word_TakeNum.f kj4 a0).bind fun bt172 => ((catchmentref03_TakeNum.f kj4 a0).bind fun bt175 => ((word_TakeText.f kj4 a0 a3).bind fun bt178 => ((catchmentref03_TakeText.f kj4 a0 a3).bind fun bt181 => ((word_TakeTexts.f kj4 a0 a2 a3).bind fun bt184 => ((catchmentref03_TakeTexts.f kj4 a0 a2 a3).bind fun bt189 => ((catchmentlaw03_live.f kj4).bind fun t194 => (if t194 = true then (if bt172.1 = bt175.1 then (if bt172.2.1.toList = bt175.2.1.toList then (if bt172.2.2 = bt175.2.2 then (if bt178.1.toList = bt181.1.toList then (if bt178.2.1.toList = bt181.2.1.toList then (if bt178.2.2 = bt181.2.2 then ((catchmentref03_Same.f kj4 bt184.1 bt189.1).bind fun t195 => (if t195 = true then (if bt184.2.1.toList = bt189.2.1.toList then (if bt184.2.2 = bt189.2.2 then ((word_Num.f kj4 a1).bind fun t196 => ((catchmentref03_Num.f kj4 a1).bind fun t197 => (some (t196.toList == t197.toList)))) else (none)) else (none)) else (none))) else (none)) else (none)) else (none)) else (none)) else (none)) else (none)) else (none))))))))) = some r := by rw [if_neg (show ¬ (false = true) by decide)] at H; exact H
        clear H
        have H := H1
        clear H1
        replace H := Option.bind_eq_some_iff.mp H
        obtain ⟨⟨t172, t173, t174⟩, A100, H⟩ := H
        replace H : ((catchmentref03_TakeNum.f kj4 a0).bind fun bt175 => ((word_TakeText.f kj4 a0 a3).bind fun bt178 => ((catchmentref03_TakeText.f kj4 a0 a3).bind fun bt181 => ((word_TakeTexts.f kj4 a0 a2 a3).bind fun bt184 => ((catchmentref03_TakeTexts.f kj4 a0 a2 a3).bind fun bt189 => ((catchmentlaw03_live.f kj4).bind fun t194 => (if t194 = true then (if t172 = bt175.1 then (if t173.toList = bt175.2.1.toList then (if t174 = bt175.2.2 then (if bt178.1.toList = bt181.1.toList then (if bt178.2.1.toList = bt181.2.1.toList then (if bt178.2.2 = bt181.2.2 then ((catchmentref03_Same.f kj4 bt184.1 bt189.1).bind fun t195 => (if t195 = true then (if bt184.2.1.toList = bt189.2.1.toList then (if bt184.2.2 = bt189.2.2 then ((word_Num.f kj4 a1).bind fun t196 => ((catchmentref03_Num.f kj4 a1).bind fun t197 => (some (t196.toList == t197.toList)))) else (none)) else (none)) else (none))) else (none)) else (none)) else (none)) else (none)) else (none)) else (none)) else (none)))))))) = some r := H
        have A10 := Aside0.mk A100
        clear A100
        replace H := Option.bind_eq_some_iff.mp H
        obtain ⟨⟨t175, t176, t177⟩, A110, H⟩ := H
        replace H : ((word_TakeText.f kj4 a0 a3).bind fun bt178 => ((catchmentref03_TakeText.f kj4 a0 a3).bind fun bt181 => ((word_TakeTexts.f kj4 a0 a2 a3).bind fun bt184 => ((catchmentref03_TakeTexts.f kj4 a0 a2 a3).bind fun bt189 => ((catchmentlaw03_live.f kj4).bind fun t194 => (if t194 = true then (if t172 = t175 then (if t173.toList = t176.toList then (if t174 = t177 then (if bt178.1.toList = bt181.1.toList then (if bt178.2.1.toList = bt181.2.1.toList then (if bt178.2.2 = bt181.2.2 then ((catchmentref03_Same.f kj4 bt184.1 bt189.1).bind fun t195 => (if t195 = true then (if bt184.2.1.toList = bt189.2.1.toList then (if bt184.2.2 = bt189.2.2 then ((word_Num.f kj4 a1).bind fun t196 => ((catchmentref03_Num.f kj4 a1).bind fun t197 => (some (t196.toList == t197.toList)))) else (none)) else (none)) else (none))) else (none)) else (none)) else (none)) else (none)) else (none)) else (none)) else (none))))))) = some r := H
        have A11 := Aside0.mk A110
        clear A110
        replace H := Option.bind_eq_some_iff.mp H
        obtain ⟨⟨t178, t179, t180⟩, A120, H⟩ := H
        replace H : ((catchmentref03_TakeText.f kj4 a0 a3).bind fun bt181 => ((word_TakeTexts.f kj4 a0 a2 a3).bind fun bt184 => ((catchmentref03_TakeTexts.f kj4 a0 a2 a3).bind fun bt189 => ((catchmentlaw03_live.f kj4).bind fun t194 => (if t194 = true then (if t172 = t175 then (if t173.toList = t176.toList then (if t174 = t177 then (if t178.toList = bt181.1.toList then (if t179.toList = bt181.2.1.toList then (if t180 = bt181.2.2 then ((catchmentref03_Same.f kj4 bt184.1 bt189.1).bind fun t195 => (if t195 = true then (if bt184.2.1.toList = bt189.2.1.toList then (if bt184.2.2 = bt189.2.2 then ((word_Num.f kj4 a1).bind fun t196 => ((catchmentref03_Num.f kj4 a1).bind fun t197 => (some (t196.toList == t197.toList)))) else (none)) else (none)) else (none))) else (none)) else (none)) else (none)) else (none)) else (none)) else (none)) else (none)))))) = some r := H
        have A12 := Aside0.mk A120
        clear A120
        replace H := Option.bind_eq_some_iff.mp H
        obtain ⟨⟨t181, t182, t183⟩, A130, H⟩ := H
        replace H : ((word_TakeTexts.f kj4 a0 a2 a3).bind fun bt184 => ((catchmentref03_TakeTexts.f kj4 a0 a2 a3).bind fun bt189 => ((catchmentlaw03_live.f kj4).bind fun t194 => (if t194 = true then (if t172 = t175 then (if t173.toList = t176.toList then (if t174 = t177 then (if t178.toList = t181.toList then (if t179.toList = t182.toList then (if t180 = t183 then ((catchmentref03_Same.f kj4 bt184.1 bt189.1).bind fun t195 => (if t195 = true then (if bt184.2.1.toList = bt189.2.1.toList then (if bt184.2.2 = bt189.2.2 then ((word_Num.f kj4 a1).bind fun t196 => ((catchmentref03_Num.f kj4 a1).bind fun t197 => (some (t196.toList == t197.toList)))) else (none)) else (none)) else (none))) else (none)) else (none)) else (none)) else (none)) else (none)) else (none)) else (none))))) = some r := H
        have A13 := Aside0.mk A130
        clear A130
        replace H := Option.bind_eq_some_iff.mp H
        obtain ⟨⟨t184, t185, t186⟩, A140, H⟩ := H
        replace H : ((catchmentref03_TakeTexts.f kj4 a0 a2 a3).bind fun bt189 => ((catchmentlaw03_live.f kj4).bind fun t194 => (if t194 = true then (if t172 = t175 then (if t173.toList = t176.toList then (if t174 = t177 then (if t178.toList = t181.toList then (if t179.toList = t182.toList then (if t180 = t183 then ((catchmentref03_Same.f kj4 t184 bt189.1).bind fun t195 => (if t195 = true then (if t185.toList = bt189.2.1.toList then (if t186 = bt189.2.2 then ((word_Num.f kj4 a1).bind fun t196 => ((catchmentref03_Num.f kj4 a1).bind fun t197 => (some (t196.toList == t197.toList)))) else (none)) else (none)) else (none))) else (none)) else (none)) else (none)) else (none)) else (none)) else (none)) else (none)))) = some r := H
        have A14 := Aside0.mk A140
        clear A140
        replace H := Option.bind_eq_some_iff.mp H
        obtain ⟨⟨t189, t190, t191⟩, A150, H⟩ := H
        replace H : ((catchmentlaw03_live.f kj4).bind fun t194 => (if t194 = true then (if t172 = t175 then (if t173.toList = t176.toList then (if t174 = t177 then (if t178.toList = t181.toList then (if t179.toList = t182.toList then (if t180 = t183 then ((catchmentref03_Same.f kj4 t184 t189).bind fun t195 => (if t195 = true then (if t185.toList = t190.toList then (if t186 = t191 then ((word_Num.f kj4 a1).bind fun t196 => ((catchmentref03_Num.f kj4 a1).bind fun t197 => (some (t196.toList == t197.toList)))) else (none)) else (none)) else (none))) else (none)) else (none)) else (none)) else (none)) else (none)) else (none)) else (none))) = some r := H
        have A15 := Aside0.mk A150
        clear A150
        replace H := Option.bind_eq_some_iff.mp H
        obtain ⟨t194, A160, H⟩ := H
        replace H : (if t194 = true then (if t172 = t175 then (if t173.toList = t176.toList then (if t174 = t177 then (if t178.toList = t181.toList then (if t179.toList = t182.toList then (if t180 = t183 then ((catchmentref03_Same.f kj4 t184 t189).bind fun t195 => (if t195 = true then (if t185.toList = t190.toList then (if t186 = t191 then ((word_Num.f kj4 a1).bind fun t196 => ((catchmentref03_Num.f kj4 a1).bind fun t197 => (some (t196.toList == t197.toList)))) else (none)) else (none)) else (none))) else (none)) else (none)) else (none)) else (none)) else (none)) else (none)) else (none)) = some r := H
        have A16 := Aside0.mk A160
        clear A160
        by_cases c17 : t194 = true
        · subst c17
          have H1 : (if t172 = t175 then (if t173.toList = t176.toList then (if t174 = t177 then (if t178.toList = t181.toList then (if t179.toList = t182.toList then (if t180 = t183 then ((catchmentref03_Same.f kj4 t184 t189).bind fun t195 => (if t195 = true then (if t185.toList = t190.toList then (if t186 = t191 then ((word_Num.f kj4 a1).bind fun t196 => ((catchmentref03_Num.f kj4 a1).bind fun t197 => (some (t196.toList == t197.toList)))) else (none)) else (none)) else (none))) else (none)) else (none)) else (none)) else (none)) else (none)) else (none)) = some r := by rw [if_pos rfl] at H; exact H
          clear H
          have H := H1
          clear H1
          by_cases c18 : t172 = t175
          · rw [if_pos c18] at H
            have c18b0 : (t172 == t175) = true := beq_iff_eq.mpr c18
            have c18b1 : (t172 != t175) = false := bne_eq_false_iff_eq.mpr c18
            clear c18
            by_cases c19 : t173.toList = t176.toList
            · rw [if_pos c19] at H
              have c19b0 : (t173.toList == t176.toList) = true := beq_iff_eq.mpr c19
              have c19b1 : (t173.toList != t176.toList) = false := bne_eq_false_iff_eq.mpr c19
              clear c19
              by_cases c20 : t174 = t177
              · rw [if_pos c20] at H
                have c20b0 : (t174 == t177) = true := beq_iff_eq.mpr c20
                have c20b1 : (t174 != t177) = false := bne_eq_false_iff_eq.mpr c20
                clear c20
                by_cases c21 : t178.toList = t181.toList
                · rw [if_pos c21] at H
                  have c21b0 : (t178.toList == t181.toList) = true := beq_iff_eq.mpr c21
                  have c21b1 : (t178.toList != t181.toList) = false := bne_eq_false_iff_eq.mpr c21
                  clear c21
                  by_cases c22 : t179.toList = t182.toList
                  · rw [if_pos c22] at H
                    have c22b0 : (t179.toList == t182.toList) = true := beq_iff_eq.mpr c22
                    have c22b1 : (t179.toList != t182.toList) = false := bne_eq_false_iff_eq.mpr c22
                    clear c22
                    by_cases c23 : t180 = t183
                    · rw [if_pos c23] at H
                      have c23b0 : (t180 == t183) = true := beq_iff_eq.mpr c23
                      have c23b1 : (t180 != t183) = false := bne_eq_false_iff_eq.mpr c23
                      clear c23
                      replace H := Option.bind_eq_some_iff.mp H
                      obtain ⟨t195, A240, H⟩ := H
                      replace H : (if t195 = true then (if t185.toList = t190.toList then (if t186 = t191 then ((word_Num.f kj4 a1).bind fun t196 => ((catchmentref03_Num.f kj4 a1).bind fun t197 => (some (t196.toList == t197.toList)))) else (none)) else (none)) else (none)) = some r := H
                      have A24 := Aside0.mk A240
                      clear A240
                      by_cases c25 : t195 = true
                      · subst c25
                        have H1 : (if t185.toList = t190.toList then (if t186 = t191 then ((word_Num.f kj4 a1).bind fun t196 => ((catchmentref03_Num.f kj4 a1).bind fun t197 => (some (t196.toList == t197.toList)))) else (none)) else (none)) = some r := by rw [if_pos rfl] at H; exact H
                        clear H
                        have H := H1
                        clear H1
                        by_cases c26 : t185.toList = t190.toList
                        · rw [if_pos c26] at H
                          have c26b0 : (t185.toList == t190.toList) = true := beq_iff_eq.mpr c26
                          have c26b1 : (t185.toList != t190.toList) = false := bne_eq_false_iff_eq.mpr c26
                          clear c26
                          by_cases c27 : t186 = t191
                          · rw [if_pos c27] at H
                            have c27b0 : (t186 == t191) = true := beq_iff_eq.mpr c27
                            have c27b1 : (t186 != t191) = false := bne_eq_false_iff_eq.mpr c27
                            clear c27
                            replace H := Option.bind_eq_some_iff.mp H
                            obtain ⟨t196, A280, H⟩ := H
                            replace H : ((catchmentref03_Num.f kj4 a1).bind fun t197 => (some (t196.toList == t197.toList))) = some r := H
                            have A28 := Aside0.mk A280
                            clear A280
                            replace H := Option.bind_eq_some_iff.mp H
                            obtain ⟨t197, A290, H⟩ := H
                            replace H : (some (t196.toList == t197.toList)) = some r := H
                            have A29 := Aside0.mk A290
                            clear A290
                            obtain rfl := Option.some.inj H
                            go_wp2_with (first | ((with_reducible refine gate_callee (f := 22) rfl ?_); refine goesL_ (some 37) rfl rfl Try.func22 (by kernel_rfl) rfl #[.string a0] rfl (by (try simp only [List.map_toArray, List.map_cons, List.map_nil]); first | done | rfl | (simp only [List.length_drop, List.length_take]; rfl)) ?_; (with_reducible refine (word_TakeNum.calls kj4 a0 t172 t173 t174 _ A10.out).mono ?_); rintro e w' ⟨rfl, ⟨nd, rfl⟩⟩; refine ⟨_, rfl, ?_⟩) | ((with_reducible refine gate_callee (f := 23) rfl ?_); refine goesL_ (some 43) rfl rfl Try.func23 (by kernel_rfl) rfl #[.string a0] rfl (by (try simp only [List.map_toArray, List.map_cons, List.map_nil]); first | done | rfl | (simp only [List.length_drop, List.length_take]; rfl)) ?_; (with_reducible refine (catchmentref03_TakeNum.calls kj4 a0 t175 t176 t177 _ A11.out).mono ?_); rintro e w30 ⟨rfl, hb⟩; refine ⟨_, rfl, ?_⟩; have n0_ := Aside0.mk (below_step (by repeat (first | (with_reducible first | exact HB.out | apply below_alloc | apply pw_below_drewN | apply below_drew1) | exact HB.out)) hb); clear HB; have HB := n0_; clear n0_; (try clear hb); (try clear hb2); (try clear hk); (try clear hi)) | ((with_reducible refine gate_callee (f := 24) rfl ?_); refine goesL_ (some 50) rfl rfl Try.func24 (by kernel_rfl) rfl #[.string a0, .int .i64 a3] rfl (by (try simp only [List.map_toArray, List.map_cons, List.map_nil]); first | done | rfl | (simp only [List.length_drop, List.length_take]; rfl)) ?_; (with_reducible refine (word_TakeText.calls kj4 a0 a3 t178 t179 t180 _ A12.out).mono ?_); rintro e w' ⟨rfl, ⟨nd, rfl⟩⟩; refine ⟨_, rfl, ?_⟩) | ((with_reducible refine gate_callee (f := 25) rfl ?_); refine goesL_ (some 57) rfl rfl Try.func25 (by kernel_rfl) rfl #[.string a0, .int .i64 a3] rfl (by (try simp only [List.map_toArray, List.map_cons, List.map_nil]); first | done | rfl | (simp only [List.length_drop, List.length_take]; rfl)) ?_; (with_reducible refine (catchmentref03_TakeText.calls kj4 a0 a3 t181 t182 t183 _ A13.out).mono ?_); rintro e w31 ⟨rfl, hb⟩; refine ⟨_, rfl, ?_⟩; have n0_ := Aside0.mk (below_step (by repeat (first | (with_reducible first | exact HB.out | apply below_alloc | apply pw_below_drewN | apply below_drew1) | exact HB.out)) hb); clear HB; have HB := n0_; clear n0_; (try clear hb); (try clear hb2); (try clear hk); (try clear hi)) | ((with_reducible refine gate_callee (f := 26) rfl ?_); refine goesL_ (some 65) rfl rfl Try.func26 (by kernel_rfl) rfl #[.string a0, .int .i64 a2, .int .i64 a3] rfl (by (try simp only [List.map_toArray, List.map_cons, List.map_nil]); first | done | rfl | (simp only [List.length_drop, List.length_take]; rfl)) ?_; (with_reducible refine (word_TakeTexts.calls kj4 a0 a2 a3 t184 t185 t186 _ A14.out).mono ?_); rintro e w32 ⟨v187, rfl, ho0, hb⟩; refine ⟨_, rfl, ?_⟩; have n0_ := Aside0.mk (Kd.R_lower ho0 (below_size (by repeat (first | (with_reducible first | exact HB.out | apply below_alloc | apply pw_below_drewN | apply below_drew1) | exact HB.out)))); have n1_ := Aside0.mk (below_step (by repeat (first | (with_reducible first | exact HB.out | apply below_alloc | apply pw_below_drewN | apply below_drew1) | exact HB.out)) hb); clear HB; have HO188 := n0_; have HB := n1_; clear n0_ n1_; (try clear hb); (try clear hb2); (try clear hk); (try clear hi); (try clear ho0)) | ((with_reducible refine gate_callee (f := 27) rfl ?_); refine goesL_ (some 73) rfl rfl Try.func27 (by kernel_rfl) rfl #[.string a0, .int .i64 a2, .int .i64 a3] rfl (by (try simp only [List.map_toArray, List.map_cons, List.map_nil]); first | done | rfl | (simp only [List.length_drop, List.length_take]; rfl)) ?_; (with_reducible refine (catchmentref03_TakeTexts.calls kj4 a0 a2 a3 t189 t190 t191 _ A15.out).mono ?_); rintro e w33 ⟨v192, rfl, ho0, hb⟩; refine ⟨_, rfl, ?_⟩; have n0_ := Aside0.mk (Kd.R_elder' (by (with_reducible repeat (first | apply Kd.R_alloc | apply Kd.R_drewN | apply Kd.R_drew)); exact HO188.out) (Kd.R_base ho0) hb); have n1_ := Aside0.mk (Kd.R_lower (Kd.R_new' ho0 (Kd.R_lt (by (with_reducible repeat (first | apply Kd.R_alloc | apply Kd.R_drewN | apply Kd.R_drew)); exact HO188.out))) (below_size (by repeat (first | (with_reducible first | exact HB.out | apply below_alloc | apply pw_below_drewN | apply below_drew1) | exact HB.out)))); have n2_ := Aside0.mk (below_step (by repeat (first | (with_reducible first | exact HB.out | apply below_alloc | apply pw_below_drewN | apply below_drew1) | exact HB.out)) hb); clear HO188; clear HB; have HO188 := n0_; have HO193 := n1_; have HB := n2_; clear n0_ n1_ n2_; (try clear hb); (try clear hb2); (try clear hk); (try clear hi); (try clear ho0)) | ((with_reducible refine gate_callee (f := 17) rfl ?_); refine goesL_ (some 77) rfl rfl Try.func17 (by kernel_rfl) rfl #[] rfl (by (try simp only [List.map_toArray, List.map_cons, List.map_nil]); first | done | rfl | (simp only [List.length_drop, List.length_take]; rfl)) ?_; (with_reducible refine (catchmentlaw03_live.calls kj4  true _ A16.out).mono ?_); rintro e w34 ⟨rfl, hb⟩; refine ⟨_, rfl, ?_⟩; have n0_ := Aside0.mk (Kd.R_below (by (with_reducible repeat (first | apply Kd.R_alloc | apply Kd.R_drewN | apply Kd.R_drew)); exact HO188.out) hb); have n1_ := Aside0.mk (Kd.R_below (by (with_reducible repeat (first | apply Kd.R_alloc | apply Kd.R_drewN | apply Kd.R_drew)); exact HO193.out) hb); have n2_ := Aside0.mk (below_step (by repeat (first | (with_reducible first | exact HB.out | apply below_alloc | apply pw_below_drewN | apply below_drew1) | exact HB.out)) hb); clear HO188; clear HO193; clear HB; have HO188 := n0_; have HO193 := n1_; have HB := n2_; clear n0_ n1_ n2_; (try clear hb); (try clear hb2); (try clear hk); (try clear hi); obtain ⟨Ao35, co35, eo35⟩ := Kd.R_slice HO188.out; subst eo35; obtain ⟨Ao36, co36, eo36⟩ := Kd.R_slice HO193.out; subst eo36) | (go_at_call 28; (with_reducible refine (catchmentref03_Same.calls kj4 _ _ t184 _ _ t189 true _ ?side1 ?side2 ?side3 ?side4 A24.out).mono ?_); (case side1 => repeat (first | exact (Kd.R_reads' HO188.out).2.2 | (with_reducible refine Kd.C_alloc ?_ _) | (with_reducible refine Kd.C_drewN ?_ _) | (with_reducible refine Kd.C_drew ?_))); (case side2 => exact (Kd.R_reads' HO188.out).2.1); (case side3 => repeat (first | exact (Kd.R_reads' HO193.out).2.2 | (with_reducible refine Kd.C_alloc ?_ _) | (with_reducible refine Kd.C_drewN ?_ _) | (with_reducible refine Kd.C_drew ?_))); (case side4 => exact (Kd.R_reads' HO193.out).2.1); rintro e w' ⟨rfl, ⟨nd, rfl⟩⟩) | (go_at_call 29; (with_reducible refine (word_Num.calls kj4 a1 t196 _ A28.out).mono ?_); rintro e w37 ⟨rfl, hb⟩; have n0_ := Aside0.mk (Kd.R_below (by (with_reducible repeat (first | apply Kd.R_alloc | apply Kd.R_drewN | apply Kd.R_drew)); exact HO188.out) hb); have n1_ := Aside0.mk (Kd.R_below (by (with_reducible repeat (first | apply Kd.R_alloc | apply Kd.R_drewN | apply Kd.R_drew)); exact HO193.out) hb); have n2_ := Aside0.mk (below_step (by repeat (first | (with_reducible first | exact HB.out | apply below_alloc | apply pw_below_drewN | apply below_drew1) | exact HB.out)) hb); clear HO188; clear HO193; clear HB; have HO188 := n0_; have HO193 := n1_; have HB := n2_; clear n0_ n1_ n2_; (try clear hb); (try clear hb2); (try clear hk); (try clear hi)) | (go_at_call 30; (with_reducible refine (catchmentref03_Num.calls kj4 a1 t197 _ A29.out).mono ?_); rintro e w38 ⟨rfl, hb⟩; have n0_ := Aside0.mk (Kd.R_below (by (with_reducible repeat (first | apply Kd.R_alloc | apply Kd.R_drewN | apply Kd.R_drew)); exact HO188.out) hb); have n1_ := Aside0.mk (Kd.R_below (by (with_reducible repeat (first | apply Kd.R_alloc | apply Kd.R_drewN | apply Kd.R_drew)); exact HO193.out) hb); have n2_ := Aside0.mk (below_step (by repeat (first | (with_reducible first | exact HB.out | apply below_alloc | apply pw_below_drewN | apply below_drew1) | exact HB.out)) hb); clear HO188; clear HO193; clear HB; have HO188 := n0_; have HO193 := n1_; have HB := n2_; clear n0_ n1_ n2_; (try clear hb); (try clear hb2); (try clear hk); (try clear hi)))
                            go_ret
                            exact ⟨by first | rfl | (simp [errW_none, errW_some] <;> rfl) | (simp [*, errW_none, errW_some] <;> rfl), by repeat (first | (with_reducible first | exact HB.out | apply below_alloc | apply pw_below_drewN | apply below_drew1) | exact HB.out)⟩
                          · rw [if_neg c27] at H
                            exact absurd H (by simp)
                        · rw [if_neg c26] at H
                          exact absurd H (by simp)
                      · replace c25 := Bool.eq_false_iff.mpr c25
                        subst c25
                        have H1 : (none) = some r := by rw [if_neg (show ¬ (false = true) by decide)] at H; exact H
                        clear H
                        have H := H1
                        clear H1
                        exact absurd H (by simp)
                    · rw [if_neg c23] at H
                      exact absurd H (by simp)
                  · rw [if_neg c22] at H
                    exact absurd H (by simp)
                · rw [if_neg c21] at H
                  exact absurd H (by simp)
              · rw [if_neg c20] at H
                exact absurd H (by simp)
            · rw [if_neg c19] at H
              exact absurd H (by simp)
          · rw [if_neg c18] at H
            exact absurd H (by simp)
        · replace c17 := Bool.eq_false_iff.mpr c17
          subst c17
          have H1 : (none) = some r := by rw [if_neg (show ¬ (false = true) by decide)] at H; exact H
          clear H
          have H := H1
          clear H1
          exact absurd H (by simp)
/-- THE ONE PURE STATEMENT of catchmentlaw03_WordTakes. -/
def catchmentlaw03_WordTakes.Pure : Prop := ∀ (a0 : ByteArray) (a1 : Int) (a2 : Int) (a3 : Int), (fun s : ByteArray => s.size ≤ 140737488351232) a0 → (fun x : Int => (Lit.int .i64 x).wf = true) a1 → (fun x : Int => (Lit.int .i64 x).wf = true) a2 → (fun x : Int => (Lit.int .i64 x).wf = true) a3 → ∃ k, catchmentlaw03_WordTakes.f k a0 a1 a2 a3 = some true
theorem catchmentlaw03_WordTakes.walk (P : catchmentlaw03_WordTakes.Pure) (a0 : ByteArray) (a1 : Int) (a2 : Int) (a3 : Int) (w : World)  (ok_0 : (fun s : ByteArray => s.size ≤ 140737488351232) a0) (ok_1 : (fun x : Int => (Lit.int .i64 x).wf = true) a1) (ok_2 : (fun x : Int => (Lit.int .i64 x).wf = true) a2) (ok_3 : (fun x : Int => (Lit.int .i64 x).wf = true) a3) :
    Calls Try.prog 5 #[.string a0, .int .i64 a1, .int .i64 a2, .int .i64 a3] w fun e w' => e = .returned (.bool true) ∧ Below w.heap.size w w' := by
  obtain ⟨k, h⟩ := P a0 a1 a2 a3 ok_0 ok_1 ok_2 ok_3
  refine (catchmentlaw03_WordTakes.calls k a0 a1 a2 a3 true w h).mono ?_
  rintro e w' ⟨rfl, hd⟩
  exact ⟨rfl, hd⟩

end Go.Proofs.Ytgbnhfppnglamaa.Q2
