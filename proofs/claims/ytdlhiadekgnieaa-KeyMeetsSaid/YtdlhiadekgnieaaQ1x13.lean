-- written by a program of this session (wip/myprint.py), over the kit's printer and the session's own contracts
import Derived.Test.YtdlhiadekgnieaaQ1x0
import Derived.Test.YtdlhiadekgnieaaQ1x3
import Derived.Test.YtdlhiadekgnieaaQ1x5
namespace Go.Proofs.Ytdlhiadekgnieaa.Q1
open Go.RowKit Go.Proofs.YtdlhiadekgnieaaW.PrintWords Go.Proofs.YtdlhiadekgnieaaW.PrintLast Go.Proofs.YtdlhiadekgnieaaW.PrintMore Go.Proofs.YtdlhiadekgnieaaW.Mine
attribute [local go_sem] max2_int min2_int max_two min_two max_three min_three max_four min_four max2_str min2_str binOp_gtr_str binOp_leq_str binOp_geq_str   -- for this text's walks alone
set_option linter.unusedVariables false
set_option linter.unusedSimpArgs false

/-! ### catchmentref02_Before: function 29 -/
def catchmentref02_Before.f (a0 : ByteArray) (a1 : ByteArray) : Option (Bool) := if a0.toList = ([] : List UInt8) then (some false) else (if a1.toList = ([] : List UInt8) then (some true) else (some (Op.bytesLess a0.toList a1.toList)))
set_option maxHeartbeats 8000000 in
set_option maxRecDepth 100000 in
theorem catchmentref02_Before.calls (a0 : ByteArray) (a1 : ByteArray) (r : Bool) (w : World) (h : catchmentref02_Before.f a0 a1 = some r) :
    Calls Try.prog 29 #[.string a0, .string a1] w fun e w' => e = .returned (.bool r) ∧ Drawn0 w w' := by
  have H : (if a0.toList = ([] : List UInt8) then (some false) else (if a1.toList = ([] : List UInt8) then (some true) else (some (Op.bytesLess a0.toList a1.toList)))) = some r := h
  clear h
  by_cases c3 : a0.toList = ([] : List UInt8)
  · rw [if_pos c3] at H
    have c3b0 : (a0.toList == ([] : List UInt8)) = true := beq_iff_eq.mpr c3
    have c3b1 : (a0.toList != ([] : List UInt8)) = false := bne_eq_false_iff_eq.mpr c3
    clear c3
    obtain rfl := Option.some.inj H
    go_enter Try.func29, Try.ntmps29
    go_wp2
    go_ret
    exact ⟨by first | rfl | (simp; done) | (simp [*]; done), by repeat (first | exact Drawn0.refl _ | apply Drawn0.step)⟩
  · rw [if_neg c3] at H
    have c3b0 : (a0.toList == ([] : List UInt8)) = false := beq_eq_false_iff_ne.mpr c3
    have c3b1 : (a0.toList != ([] : List UInt8)) = true := bne_iff_ne.mpr c3
    by_cases c4 : a1.toList = ([] : List UInt8)
    · rw [if_pos c4] at H
      have c4b0 : (a1.toList == ([] : List UInt8)) = true := beq_iff_eq.mpr c4
      have c4b1 : (a1.toList != ([] : List UInt8)) = false := bne_eq_false_iff_eq.mpr c4
      clear c4
      obtain rfl := Option.some.inj H
      go_enter Try.func29, Try.ntmps29
      go_wp2
      go_ret
      exact ⟨by first | rfl | (simp; done) | (simp [*]; done), by repeat (first | exact Drawn0.refl _ | apply Drawn0.step)⟩
    · rw [if_neg c4] at H
      have c4b0 : (a1.toList == ([] : List UInt8)) = false := beq_eq_false_iff_ne.mpr c4
      have c4b1 : (a1.toList != ([] : List UInt8)) = true := bne_iff_ne.mpr c4
      obtain rfl := Option.some.inj H
      go_enter Try.func29, Try.ntmps29
      go_wp2
      go_ret
      exact ⟨by first | rfl | (simp; done) | (simp [*]; done), by repeat (first | exact Drawn0.refl _ | apply Drawn0.step)⟩

/-! ### key_Right: function 30 -/
def key_Right.f (a0 : ByteArray) (a1 : Int) : Option (Bool) := if (a0.size : Int) ≥ 1 then (some (decide ((a0.size : Int) ≤ a1))) else (some false)
set_option maxHeartbeats 8000000 in
set_option maxRecDepth 100000 in
theorem key_Right.calls (a0 : ByteArray) (a1 : Int) (r : Bool) (w : World) (h : key_Right.f a0 a1 = some r) :
    Calls Try.prog 30 #[.string a0, .int .i64 a1] w fun e w' => e = .returned (.bool r) ∧ Drawn0 w w' := by
  have H : (if (a0.size : Int) ≥ 1 then (some (decide ((a0.size : Int) ≤ a1))) else (some false)) = some r := h
  clear h
  by_cases c3 : (a0.size : Int) ≥ 1
  · rw [if_pos c3] at H
    have c3b0 : decide (1 ≤ (a0.size : Int)) = true := decide_eq_true c3
    have c3b1 : decide (1 ≤ a0.size) = true := decide_eq_true (by omega)
    clear c3
    obtain rfl := Option.some.inj H
    go_enter Try.func30, Try.ntmps30
    go_wp2
    go_ret
    exact ⟨by first | rfl | (simp; done) | (simp [*]; done), by repeat (first | exact Drawn0.refl _ | apply Drawn0.step)⟩
  · rw [if_neg c3] at H
    have c3b0 : decide (1 ≤ (a0.size : Int)) = false := decide_eq_false c3
    have c3b1 : decide (1 ≤ a0.size) = false := decide_eq_false (by omega)
    clear c3
    obtain rfl := Option.some.inj H
    go_enter Try.func30, Try.ntmps30
    go_wp2
    go_ret
    exact ⟨by first | rfl | (simp; done) | (simp [*]; done), by repeat (first | exact Drawn0.refl _ | apply Drawn0.step)⟩

/-! ### key_Last: function 33 -/
def key_Last.f (a0 : ByteArray) (a1 : ByteArray) : Option (ByteArray) := (key_Before.f a0 a1).bind fun t200 => (if t200 = true then (some a1) else (some a0))
set_option maxHeartbeats 8000000 in
set_option maxRecDepth 100000 in
theorem key_Last.calls (a0 : ByteArray) (a1 : ByteArray) (r : ByteArray) (w : World) (h : key_Last.f a0 a1 = some r) :
    Calls Try.prog 33 #[.string a0, .string a1] w fun e w' => e = .returned (.string r) ∧ Drawn0 w w' := by
  have H : ((key_Before.f a0 a1).bind fun t200 => (if t200 = true then (some a1) else (some a0))) = some r := h
  clear h
  replace H := Option.bind_eq_some_iff.mp H
  obtain ⟨t200, A30, H⟩ := H
  replace H : (if t200 = true then (some a1) else (some a0)) = some r := H
  have A3 := Aside0.mk A30
  clear A30
  by_cases c4 : t200 = true
  · subst c4
    have H1 : (some a1) = some r := by rw [if_pos rfl] at H; exact H
    clear H
    have H := H1
    clear H1
    obtain rfl := Option.some.inj H
    go_enter Try.func33, Try.ntmps33
    go_wp2_with (first | ((with_reducible refine gate_callee (f := 31) rfl ?_); refine goesL_ (some 7) rfl rfl Try.func31 (by kernel_rfl) rfl #[.string a0, .string a1] rfl (by (try simp only [List.map_toArray, List.map_cons, List.map_nil]); first | done | rfl | (simp only [List.length_drop, List.length_take]; rfl)) ?_; (with_reducible refine (key_Before.calls a0 a1 true _ A3.out).mono ?_); rintro e w' ⟨rfl, ⟨nd, rfl⟩⟩; refine ⟨_, rfl, ?_⟩))
    go_ret
    exact ⟨by first | rfl | (simp; done) | (simp [*]; done), by repeat (first | exact Drawn0.refl _ | apply Drawn0.step)⟩
  · replace c4 := Bool.eq_false_iff.mpr c4
    subst c4
    have H1 : (some a0) = some r := by rw [if_neg (show ¬ (false = true) by decide)] at H; exact H
    clear H
    have H := H1
    clear H1
    obtain rfl := Option.some.inj H
    go_enter Try.func33, Try.ntmps33
    go_wp2_with (first | ((with_reducible refine gate_callee (f := 31) rfl ?_); refine goesL_ (some 7) rfl rfl Try.func31 (by kernel_rfl) rfl #[.string a0, .string a1] rfl (by (try simp only [List.map_toArray, List.map_cons, List.map_nil]); first | done | rfl | (simp only [List.length_drop, List.length_take]; rfl)) ?_; (with_reducible refine (key_Before.calls a0 a1 false _ A3.out).mono ?_); rintro e w' ⟨rfl, ⟨nd, rfl⟩⟩; refine ⟨_, rfl, ?_⟩))
    go_ret
    exact ⟨by first | rfl | (simp; done) | (simp [*]; done), by repeat (first | exact Drawn0.refl _ | apply Drawn0.step)⟩

/-! ### catchmentlaw02_KeyEnds: function 7 -/
def catchmentlaw02_KeyEnds.j0 : Nat → ByteArray → ByteArray → Int → Bool → ByteArray → ByteArray → Option (Bool)
  | 0, _, _, _, _, _, _ => none
  | k + 1, x0, x1, x2, x7, x8, x9 => (catchmentlaw02_live.f k).bind fun t203 => (if t203 = true then ((key_Right.f x0 x2).bind fun t204 => (if x0.toList = ([] : List UInt8) then (if (t204 == false) = true then ((key_Before.f x0 x1).bind fun t205 => (if (t205 == x7) = true then ((key_First.f x0 x1).bind fun t206 => (if t206.toList = x8.toList then ((key_Last.f x0 x1).bind fun t207 => (some (t207.toList == x9.toList))) else (none))) else (none))) else (none)) else (if (t204 == (decide ((x0.size : Int) ≤ x2))) = true then ((key_Before.f x0 x1).bind fun t208 => (if (t208 == x7) = true then ((key_First.f x0 x1).bind fun t209 => (if t209.toList = x8.toList then ((key_Last.f x0 x1).bind fun t210 => (some (t210.toList == x9.toList))) else (none))) else (none))) else (none)))) else (none))
def catchmentlaw02_KeyEnds.f (k : Nat) (a0 : ByteArray) (a1 : ByteArray) (a2 : Int) : Option (Bool) := (catchmentref02_Before.f a0 a1).bind fun t201 => ((catchmentref02_Before.f a1 a0).bind fun t202 => (if t202 = true then (catchmentlaw02_KeyEnds.j0 k a0 a1 a2 t201 a1 a0) else (catchmentlaw02_KeyEnds.j0 k a0 a1 a2 t201 a0 a1)))
theorem catchmentlaw02_KeyEnds.mono_l : ∀ k, (∀ y0 y1 y2 y3 y4 y5, LeO (catchmentlaw02_KeyEnds.j0 k y0 y1 y2 y3 y4 y5) (catchmentlaw02_KeyEnds.j0 (k + 1) y0 y1 y2 y3 y4 y5))
  | 0 => fun _ _ _ _ _ _ r h => by simp [catchmentlaw02_KeyEnds.j0] at h
  | k + 1 => by
    have ih0 := catchmentlaw02_KeyEnds.mono_l k
    · intro y0 y1 y2 y3 y4 y5
      unfold catchmentlaw02_KeyEnds.j0
      repeat' first
      | (with_reducible exact ih0 _ _ _ _ _ _)
      | (with_reducible exact catchmentlaw02_live.mono _)
      | (with_reducible exact LeO.refl _)
      | (with_reducible exact LeO.none _)
      | (with_reducible refine LeO.ite ?_ ?_)
      | (with_reducible refine LeO.bind ?_ (fun _ => ?_))
      | exact ih0 _ _ _ _ _ _
      | exact catchmentlaw02_live.mono _
      | exact LeO.none _
      | refine LeO.ite ?_ ?_
      | refine LeO.bind ?_ (fun _ => ?_)
theorem catchmentlaw02_KeyEnds.mono : ∀ a0 a1 a2 k, LeO (catchmentlaw02_KeyEnds.f k a0 a1 a2) (catchmentlaw02_KeyEnds.f (k + 1) a0 a1 a2) := by
  intro a0 a1 a2 k
  have ih0 := catchmentlaw02_KeyEnds.mono_l k
  unfold catchmentlaw02_KeyEnds.f
  repeat' first
      | (with_reducible exact ih0 _ _ _ _ _ _)
      | (with_reducible exact catchmentlaw02_live.mono _)
      | (with_reducible exact LeO.refl _)
      | (with_reducible exact LeO.none _)
      | (with_reducible refine LeO.ite ?_ ?_)
      | (with_reducible refine LeO.bind ?_ (fun _ => ?_))
      | exact ih0 _ _ _ _ _ _
      | exact catchmentlaw02_live.mono _
      | exact LeO.none _
      | refine LeO.ite ?_ ?_
      | refine LeO.bind ?_ (fun _ => ?_)
set_option maxHeartbeats 8000000 in
set_option maxRecDepth 100000 in
theorem catchmentlaw02_KeyEnds.calls (k : Nat) (a0 : ByteArray) (a1 : ByteArray) (a2 : Int) (r : Bool) (w : World) (h : catchmentlaw02_KeyEnds.f k a0 a1 a2 = some r) :
    Calls Try.prog 7 #[.string a0, .string a1, .int .i64 a2] w fun e w' => e = .returned (.bool r) ∧ Below w.heap.size w w' := by
  have HB := Aside0.mk (Below.refl w.heap.size w)
  have H : ((catchmentref02_Before.f a0 a1).bind fun t201 => ((catchmentref02_Before.f a1 a0).bind fun t202 => (if t202 = true then (catchmentlaw02_KeyEnds.j0 k a0 a1 a2 t201 a1 a0) else (catchmentlaw02_KeyEnds.j0 k a0 a1 a2 t201 a0 a1)))) = some r := h
  clear h
  replace H := Option.bind_eq_some_iff.mp H
  obtain ⟨t201, A40, H⟩ := H
  replace H : ((catchmentref02_Before.f a1 a0).bind fun t202 => (if t202 = true then (catchmentlaw02_KeyEnds.j0 k a0 a1 a2 t201 a1 a0) else (catchmentlaw02_KeyEnds.j0 k a0 a1 a2 t201 a0 a1))) = some r := H
  have A4 := Aside0.mk A40
  clear A40
  replace H := Option.bind_eq_some_iff.mp H
  obtain ⟨t202, A50, H⟩ := H
  replace H : (if t202 = true then (catchmentlaw02_KeyEnds.j0 k a0 a1 a2 t201 a1 a0) else (catchmentlaw02_KeyEnds.j0 k a0 a1 a2 t201 a0 a1)) = some r := H
  have A5 := Aside0.mk A50
  clear A50
  have HC6 := Aside0.mk H
  clear H
  go_enter Try.func7, Try.ntmps7
  go_upto_if 17 with (first | ((with_reducible refine gate_callee (f := 29) rfl ?_); refine goesL_ (some 12) rfl rfl Try.func29 (by kernel_rfl) rfl #[.string a0, .string a1] rfl (by (try simp only [List.map_toArray, List.map_cons, List.map_nil]); first | done | rfl | (simp only [List.length_drop, List.length_take]; rfl)) ?_; (with_reducible refine (catchmentref02_Before.calls a0 a1 t201 _ A4.out).mono ?_); rintro e w' ⟨rfl, ⟨nd, rfl⟩⟩; refine ⟨_, rfl, ?_⟩) | ((with_reducible refine gate_callee (f := 29) rfl ?_); refine goesL_ (some 17) rfl rfl Try.func29 (by kernel_rfl) rfl #[.string a1, .string a0] rfl (by (try simp only [List.map_toArray, List.map_cons, List.map_nil]); first | done | rfl | (simp only [List.length_drop, List.length_take]; rfl)) ?_; (with_reducible refine (catchmentref02_Before.calls a1 a0 t202 _ A5.out).mono ?_); rintro e w' ⟨rfl, ⟨nd, rfl⟩⟩; refine ⟨_, rfl, ?_⟩))
  (try simp only [Act.put, List.setIfInBounds_toArray, List.set_cons_zero, List.set_cons_succ])
  go_cut [8, 9] (fun v8 v9 wc => ∃ (kq : Nat) (x8_5 : ByteArray) (x9_5 : ByteArray), v8 = .string x8_5 ∧ v9 = .string x9_5 ∧ Aside0 (catchmentlaw02_KeyEnds.j0 kq a0 a1 a2 t201 x8_5 x9_5 = some r) ∧ Aside0 (kq ≤ k) ∧ Aside0 (Below w.heap.size w wc))
  case first =>
    have H := HC6.out
    clear HC6
    by_cases c7 : t202 = true
    · subst c7
      have H1 : (catchmentlaw02_KeyEnds.j0 k a0 a1 a2 t201 a1 a0) = some r := by rw [if_pos rfl] at H; exact H
      clear H
      have H := H1
      clear H1
      have H' := Aside0.mk H
      clear H
      go_wp2
      go_meet
      case rel => exact ⟨_, (a1), (a0), (by first | rfl | (simp; done) | (simp [*]; done)), (by first | rfl | (simp; done) | (simp [*]; done)), H', ⟨by first | omega | exact Nat.le_refl _⟩, ⟨by repeat (first | (with_reducible first | exact HB.out | apply below_alloc | apply pw_below_drewN | apply below_drew1) | exact HB.out)⟩⟩
    · replace c7 := Bool.eq_false_iff.mpr c7
      subst c7
      have H1 : (catchmentlaw02_KeyEnds.j0 k a0 a1 a2 t201 a0 a1) = some r := by rw [if_neg (show ¬ (false = true) by decide)] at H; exact H
      clear H
      have H := H1
      clear H1
      have H' := Aside0.mk H
      clear H
      go_wp2
      go_meet
      case rel => exact ⟨_, (a0), (a1), (by first | rfl | (simp; done) | (simp [*]; done)), (by first | rfl | (simp; done) | (simp [*]; done)), H', ⟨by first | omega | exact Nat.le_refl _⟩, ⟨by repeat (first | (with_reducible first | exact HB.out | apply below_alloc | apply pw_below_drewN | apply below_drew1) | exact HB.out)⟩⟩
  case rest =>
    clear HC6
    try clear c2
    try clear p2
    try clear c7
    obtain ⟨kq, x8_5, x9_5, rfl, rfl, HA, HJ5, HB⟩ := hcut
    cases kq with
    | zero => exact absurd HA.out (by simp [catchmentlaw02_KeyEnds.j0])
    | succ kj5 =>
      have H := HA.out
      clear HA
      simp only [catchmentlaw02_KeyEnds.j0] at H
      replace H := Option.bind_eq_some_iff.mp H
      obtain ⟨t203, A80, H⟩ := H
      replace H : (if t203 = true then ((key_Right.f a0 a2).bind fun t204 => (if a0.toList = ([] : List UInt8) then (if (t204 == false) = true then ((key_Before.f a0 a1).bind fun t205 => (if (t205 == t201) = true then ((key_First.f a0 a1).bind fun t206 => (if t206.toList = x8_5.toList then ((key_Last.f a0 a1).bind fun t207 => (some (t207.toList == x9_5.toList))) else (none))) else (none))) else (none)) else (if (t204 == (decide ((a0.size : Int) ≤ a2))) = true then ((key_Before.f a0 a1).bind fun t208 => (if (t208 == t201) = true then ((key_First.f a0 a1).bind fun t209 => (if t209.toList = x8_5.toList then ((key_Last.f a0 a1).bind fun t210 => (some (t210.toList == x9_5.toList))) else (none))) else (none))) else (none)))) else (none)) = some r := H
      have A8 := Aside0.mk A80
      clear A80
      by_cases c9 : t203 = true
      · subst c9
        have H1 : ((key_Right.f a0 a2).bind fun t204 => (if a0.toList = ([] : List UInt8) then (if (t204 == false) = true then ((key_Before.f a0 a1).bind fun t205 => (if (t205 == t201) = true then ((key_First.f a0 a1).bind fun t206 => (if t206.toList = x8_5.toList then ((key_Last.f a0 a1).bind fun t207 => (some (t207.toList == x9_5.toList))) else (none))) else (none))) else (none)) else (if (t204 == (decide ((a0.size : Int) ≤ a2))) = true then ((key_Before.f a0 a1).bind fun t208 => (if (t208 == t201) = true then ((key_First.f a0 a1).bind fun t209 => (if t209.toList = x8_5.toList then ((key_Last.f a0 a1).bind fun t210 => (some (t210.toList == x9_5.toList))) else (none))) else (none))) else (none)))) = some r := by rw [if_pos rfl] at H; exact H
        clear H
        have H := H1
        clear H1
        replace H := Option.bind_eq_some_iff.mp H
        obtain ⟨t204, A100, H⟩ := H
        replace H : (if a0.toList = ([] : List UInt8) then (if (t204 == false) = true then ((key_Before.f a0 a1).bind fun t205 => (if (t205 == t201) = true then ((key_First.f a0 a1).bind fun t206 => (if t206.toList = x8_5.toList then ((key_Last.f a0 a1).bind fun t207 => (some (t207.toList == x9_5.toList))) else (none))) else (none))) else (none)) else (if (t204 == (decide ((a0.size : Int) ≤ a2))) = true then ((key_Before.f a0 a1).bind fun t208 => (if (t208 == t201) = true then ((key_First.f a0 a1).bind fun t209 => (if t209.toList = x8_5.toList then ((key_Last.f a0 a1).bind fun t210 => (some (t210.toList == x9_5.toList))) else (none))) else (none))) else (none))) = some r := H
        have A10 := Aside0.mk A100
        clear A100
        by_cases c11 : a0.toList = ([] : List UInt8)
        · rw [if_pos c11] at H
          have c11b0 : (a0.toList == ([] : List UInt8)) = true := beq_iff_eq.mpr c11
          have c11b1 : (a0.toList != ([] : List UInt8)) = false := bne_eq_false_iff_eq.mpr c11
          clear c11
          by_cases c12 : (t204 == false) = true
          · rw [if_pos c12] at H
            have c12b0 : (t204 == false) = true := c12
            (try (have c12b1 : decide (t204 = false) = true := by simpa using c12))
            (try (have c12b2 : (t204 == false) = true := by simpa using c12))
            clear c12
            replace H := Option.bind_eq_some_iff.mp H
            obtain ⟨t205, A130, H⟩ := H
            replace H : (if (t205 == t201) = true then ((key_First.f a0 a1).bind fun t206 => (if t206.toList = x8_5.toList then ((key_Last.f a0 a1).bind fun t207 => (some (t207.toList == x9_5.toList))) else (none))) else (none)) = some r := H
            have A13 := Aside0.mk A130
            clear A130
            by_cases c14 : (t205 == t201) = true
            · rw [if_pos c14] at H
              have c14b0 : (t205 == t201) = true := c14
              (try (have c14b1 : decide (t205 = t201) = true := by simpa using c14))
              (try (have c14b2 : (t205 == t201) = true := by simpa using c14))
              clear c14
              replace H := Option.bind_eq_some_iff.mp H
              obtain ⟨t206, A150, H⟩ := H
              replace H : (if t206.toList = x8_5.toList then ((key_Last.f a0 a1).bind fun t207 => (some (t207.toList == x9_5.toList))) else (none)) = some r := H
              have A15 := Aside0.mk A150
              clear A150
              by_cases c16 : t206.toList = x8_5.toList
              · rw [if_pos c16] at H
                have c16b0 : (t206.toList == x8_5.toList) = true := beq_iff_eq.mpr c16
                have c16b1 : (t206.toList != x8_5.toList) = false := bne_eq_false_iff_eq.mpr c16
                clear c16
                replace H := Option.bind_eq_some_iff.mp H
                obtain ⟨t207, A170, H⟩ := H
                replace H : (some (t207.toList == x9_5.toList)) = some r := H
                have A17 := Aside0.mk A170
                clear A170
                obtain rfl := Option.some.inj H
                go_wp2_with (first | ((with_reducible refine gate_callee (f := 14) rfl ?_); refine goesL_ (some 20) rfl rfl Try.func14 (by kernel_rfl) rfl #[] rfl (by (try simp only [List.map_toArray, List.map_cons, List.map_nil]); first | done | rfl | (simp only [List.length_drop, List.length_take]; rfl)) ?_; (with_reducible refine (catchmentlaw02_live.calls kj5  true _ A8.out).mono ?_); rintro e w18 ⟨rfl, hb⟩; refine ⟨_, rfl, ?_⟩; have n0_ := Aside0.mk (below_step (by repeat (first | (with_reducible first | exact HB.out | apply below_alloc | apply pw_below_drewN | apply below_drew1) | exact HB.out)) hb); clear HB; have HB := n0_; clear n0_; (try clear hb); (try clear hb2); (try clear hk); (try clear hi)) | (go_at_call 30; (with_reducible refine (key_Right.calls a0 a2 t204 _ A10.out).mono ?_); rintro e w' ⟨rfl, ⟨nd, rfl⟩⟩) | (go_at_call 31; (with_reducible refine (key_Before.calls a0 a1 t205 _ A13.out).mono ?_); rintro e w' ⟨rfl, ⟨nd, rfl⟩⟩) | (go_at_call 32; (with_reducible refine (key_First.calls a0 a1 t206 _ A15.out).mono ?_); rintro e w' ⟨rfl, ⟨nd, rfl⟩⟩) | (go_at_call 33; (with_reducible refine (key_Last.calls a0 a1 t207 _ A17.out).mono ?_); rintro e w' ⟨rfl, ⟨nd, rfl⟩⟩))
                go_ret
                exact ⟨by first | rfl | (simp [errW_none, errW_some] <;> rfl) | (simp [*, errW_none, errW_some] <;> rfl), by repeat (first | (with_reducible first | exact HB.out | apply below_alloc | apply pw_below_drewN | apply below_drew1) | exact HB.out)⟩
              · rw [if_neg c16] at H
                exact absurd H (by simp)
            · rw [if_neg c14] at H
              exact absurd H (by simp)
          · rw [if_neg c12] at H
            exact absurd H (by simp)
        · rw [if_neg c11] at H
          have c11b0 : (a0.toList == ([] : List UInt8)) = false := beq_eq_false_iff_ne.mpr c11
          have c11b1 : (a0.toList != ([] : List UInt8)) = true := bne_iff_ne.mpr c11
          by_cases c19 : (t204 == (decide ((a0.size : Int) ≤ a2))) = true
          · rw [if_pos c19] at H
            have c19b0 : (t204 == (decide ((a0.size : Int) ≤ a2))) = true := c19
            (try (have c19b1 : decide (t204 = (decide ((a0.size : Int) ≤ a2))) = true := by simpa using c19))
            (try (have c19b2 : (t204 == (decide ((a0.size : Int) ≤ a2))) = true := by simpa using c19))
            clear c19
            replace H := Option.bind_eq_some_iff.mp H
            obtain ⟨t208, A200, H⟩ := H
            replace H : (if (t208 == t201) = true then ((key_First.f a0 a1).bind fun t209 => (if t209.toList = x8_5.toList then ((key_Last.f a0 a1).bind fun t210 => (some (t210.toList == x9_5.toList))) else (none))) else (none)) = some r := H
            have A20 := Aside0.mk A200
            clear A200
            by_cases c21 : (t208 == t201) = true
            · rw [if_pos c21] at H
              have c21b0 : (t208 == t201) = true := c21
              (try (have c21b1 : decide (t208 = t201) = true := by simpa using c21))
              (try (have c21b2 : (t208 == t201) = true := by simpa using c21))
              clear c21
              replace H := Option.bind_eq_some_iff.mp H
              obtain ⟨t209, A220, H⟩ := H
              replace H : (if t209.toList = x8_5.toList then ((key_Last.f a0 a1).bind fun t210 => (some (t210.toList == x9_5.toList))) else (none)) = some r := H
              have A22 := Aside0.mk A220
              clear A220
              by_cases c23 : t209.toList = x8_5.toList
              · rw [if_pos c23] at H
                have c23b0 : (t209.toList == x8_5.toList) = true := beq_iff_eq.mpr c23
                have c23b1 : (t209.toList != x8_5.toList) = false := bne_eq_false_iff_eq.mpr c23
                clear c23
                replace H := Option.bind_eq_some_iff.mp H
                obtain ⟨t210, A240, H⟩ := H
                replace H : (some (t210.toList == x9_5.toList)) = some r := H
                have A24 := Aside0.mk A240
                clear A240
                obtain rfl := Option.some.inj H
                go_wp2_with (first | ((with_reducible refine gate_callee (f := 14) rfl ?_); refine goesL_ (some 20) rfl rfl Try.func14 (by kernel_rfl) rfl #[] rfl (by (try simp only [List.map_toArray, List.map_cons, List.map_nil]); first | done | rfl | (simp only [List.length_drop, List.length_take]; rfl)) ?_; (with_reducible refine (catchmentlaw02_live.calls kj5  true _ A8.out).mono ?_); rintro e w25 ⟨rfl, hb⟩; refine ⟨_, rfl, ?_⟩; have n0_ := Aside0.mk (below_step (by repeat (first | (with_reducible first | exact HB.out | apply below_alloc | apply pw_below_drewN | apply below_drew1) | exact HB.out)) hb); clear HB; have HB := n0_; clear n0_; (try clear hb); (try clear hb2); (try clear hk); (try clear hi)) | (go_at_call 30; (with_reducible refine (key_Right.calls a0 a2 t204 _ A10.out).mono ?_); rintro e w' ⟨rfl, ⟨nd, rfl⟩⟩) | (go_at_call 31; (with_reducible refine (key_Before.calls a0 a1 t208 _ A20.out).mono ?_); rintro e w' ⟨rfl, ⟨nd, rfl⟩⟩) | (go_at_call 32; (with_reducible refine (key_First.calls a0 a1 t209 _ A22.out).mono ?_); rintro e w' ⟨rfl, ⟨nd, rfl⟩⟩) | (go_at_call 33; (with_reducible refine (key_Last.calls a0 a1 t210 _ A24.out).mono ?_); rintro e w' ⟨rfl, ⟨nd, rfl⟩⟩))
                go_ret
                exact ⟨by first | rfl | (simp [errW_none, errW_some] <;> rfl) | (simp [*, errW_none, errW_some] <;> rfl), by repeat (first | (with_reducible first | exact HB.out | apply below_alloc | apply pw_below_drewN | apply below_drew1) | exact HB.out)⟩
              · rw [if_neg c23] at H
                exact absurd H (by simp)
            · rw [if_neg c21] at H
              exact absurd H (by simp)
          · rw [if_neg c19] at H
            exact absurd H (by simp)
      · replace c9 := Bool.eq_false_iff.mpr c9
        subst c9
        have H1 : (none) = some r := by rw [if_neg (show ¬ (false = true) by decide)] at H; exact H
        clear H
        have H := H1
        clear H1
        exact absurd H (by simp)
/-- THE ONE PURE STATEMENT of catchmentlaw02_KeyEnds. -/
def catchmentlaw02_KeyEnds.Pure : Prop := ∀ (a0 : ByteArray) (a1 : ByteArray) (a2 : Int), (fun s : ByteArray => s.size ≤ 140737488351232) a0 → (fun s : ByteArray => s.size ≤ 140737488351232) a1 → (fun x : Int => (Lit.int .i64 x).wf = true) a2 → ∃ k, catchmentlaw02_KeyEnds.f k a0 a1 a2 = some true
theorem catchmentlaw02_KeyEnds.walk (P : catchmentlaw02_KeyEnds.Pure) (a0 : ByteArray) (a1 : ByteArray) (a2 : Int) (w : World)  (ok_0 : (fun s : ByteArray => s.size ≤ 140737488351232) a0) (ok_1 : (fun s : ByteArray => s.size ≤ 140737488351232) a1) (ok_2 : (fun x : Int => (Lit.int .i64 x).wf = true) a2) :
    Calls Try.prog 7 #[.string a0, .string a1, .int .i64 a2] w fun e w' => e = .returned (.bool true) ∧ Below w.heap.size w w' := by
  obtain ⟨k, h⟩ := P a0 a1 a2 ok_0 ok_1 ok_2
  refine (catchmentlaw02_KeyEnds.calls k a0 a1 a2 true w h).mono ?_
  rintro e w' ⟨rfl, hd⟩
  exact ⟨rfl, hd⟩

end Go.Proofs.Ytdlhiadekgnieaa.Q1
