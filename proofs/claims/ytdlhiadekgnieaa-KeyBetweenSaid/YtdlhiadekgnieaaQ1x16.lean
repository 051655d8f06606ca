-- written by a program of this session (wip/myprint.py), over the kit's printer and the session's own contracts
import Derived.Test.YtdlhiadekgnieaaQ1x0
import Derived.Test.YtdlhiadekgnieaaQ1x3
import Derived.Test.YtdlhiadekgnieaaQ1x7
import Derived.Test.YtdlhiadekgnieaaQ1x14
import Derived.Test.YtdlhiadekgnieaaQ1x15
namespace Go.Proofs.Ytdlhiadekgnieaa.Q1
open Go.RowKit Go.Proofs.YtdlhiadekgnieaaW.PrintWords Go.Proofs.YtdlhiadekgnieaaW.PrintLast Go.Proofs.YtdlhiadekgnieaaW.PrintMore Go.Proofs.YtdlhiadekgnieaaW.Mine
attribute [local go_sem] max2_int min2_int max_two min_two max_three min_three max_four min_four max2_str min2_str binOp_gtr_str binOp_leq_str binOp_geq_str   -- for this text's walks alone
set_option linter.unusedVariables false
set_option linter.unusedSimpArgs false

/-! ### catchmentlaw02_KeyBetween: function 3 -/
mutual
def catchmentlaw02_KeyBetween.j0 : Nat → ByteArray → ByteArray → Bool → Option (Bool)
  | 0, _, _, _ => none
  | k + 1, x0, x1, x14 => if x14 = true then ((catchmentlaw02_live.f k).bind fun t121 => (some t121)) else ((key_Between.f k x0 x1).bind fun t122 => ((key_Shared.f k x0 x1).bind fun t123 => (if t123 < 0 then (catchmentlaw02_KeyBetween.j1 k x0 x1 t122 t123 true) else (if t123 > (x0.size : Int) then (catchmentlaw02_KeyBetween.j1 k x0 x1 t122 t123 true) else (if t123 > (x1.size : Int) then (catchmentlaw02_KeyBetween.j1 k x0 x1 t122 t123 true) else (if 0 ≤ t123 then (if t123 ≤ (x0.size : Int) then (if t123 ≤ (x1.size : Int) then (if (x0.extract 0 (t123 : Int).toNat).toList = (x1.extract 0 (t123 : Int).toNat).toList then (if t123 < (x0.size : Int) then (if t123 < (x1.size : Int) then (catchmentlaw02_KeyBetween.j1 k x0 x1 t122 t123 ((bt x0 t123) == (bt x1 t123))) else (catchmentlaw02_KeyBetween.j1 k x0 x1 t122 t123 false)) else (catchmentlaw02_KeyBetween.j1 k x0 x1 t122 t123 false)) else (catchmentlaw02_KeyBetween.j1 k x0 x1 t122 t123 true)) else (none)) else (none)) else (none)))))))
def catchmentlaw02_KeyBetween.j1 : Nat → ByteArray → ByteArray → ByteArray → Int → Bool → Option (Bool)
  | 0, _, _, _, _, _ => none
  | k + 1, x0, x1, x5, x6, x65 => if x65 = true then (none) else (if ((Op.bytesLess x0.toList x1.toList) = true) then ((catchmentlaw02_live.f k).bind fun t124 => (if t124 = true then ((catchmentref02_Between.f k x0 x1).bind fun t125 => (if x5.toList = t125.toList then (if (Op.bytesLess x0.toList x5.toList) = true then (if ((Op.bytesLess x1.toList x5.toList) = true) then (none) else (some ((x5.size : Int) == (wrap64 (x6 + 1))))) else (none)) else (none))) else (none))) else ((catchmentlaw02_live.f k).bind fun t126 => (if t126 = true then (some (x5.toList == ([] : List UInt8))) else (none))))
end
def catchmentlaw02_KeyBetween.f (k : Nat) (a0 : ByteArray) (a1 : ByteArray) : Option (Bool) := if (a0.size : Int) > 300 then (catchmentlaw02_KeyBetween.j0 k a0 a1 true) else (catchmentlaw02_KeyBetween.j0 k a0 a1 (decide ((a1.size : Int) > 300)))
theorem catchmentlaw02_KeyBetween.mono_l : ∀ k, (∀ y0 y1 y2, LeO (catchmentlaw02_KeyBetween.j0 k y0 y1 y2) (catchmentlaw02_KeyBetween.j0 (k + 1) y0 y1 y2)) ∧ (∀ y0 y1 y2 y3 y4, LeO (catchmentlaw02_KeyBetween.j1 k y0 y1 y2 y3 y4) (catchmentlaw02_KeyBetween.j1 (k + 1) y0 y1 y2 y3 y4))
  | 0 => ⟨fun _ _ _ r h => by simp [catchmentlaw02_KeyBetween.j0] at h, fun _ _ _ _ _ r h => by simp [catchmentlaw02_KeyBetween.j1] at h⟩
  | k + 1 => by
    obtain ⟨ih0, ih1⟩ := catchmentlaw02_KeyBetween.mono_l k
    refine ⟨?_, ?_⟩
    · intro y0 y1 y2
      unfold catchmentlaw02_KeyBetween.j0
      repeat' first
      | (with_reducible exact ih0 _ _ _)
      | (with_reducible exact ih1 _ _ _ _ _)
      | (with_reducible exact catchmentlaw02_live.mono _)
      | (with_reducible exact catchmentref02_Between.mono _ _ _)
      | (with_reducible exact key_Between.mono _ _ _)
      | (with_reducible exact key_Shared.mono _ _ _)
      | (with_reducible exact LeO.refl _)
      | (with_reducible exact LeO.none _)
      | (with_reducible refine LeO.ite ?_ ?_)
      | (with_reducible refine LeO.bind ?_ (fun _ => ?_))
      | exact ih0 _ _ _
      | exact ih1 _ _ _ _ _
      | exact catchmentlaw02_live.mono _
      | exact catchmentref02_Between.mono _ _ _
      | exact key_Between.mono _ _ _
      | exact key_Shared.mono _ _ _
      | exact LeO.none _
      | refine LeO.ite ?_ ?_
      | refine LeO.bind ?_ (fun _ => ?_)
    · intro y0 y1 y2 y3 y4
      unfold catchmentlaw02_KeyBetween.j1
      repeat' first
      | (with_reducible exact ih0 _ _ _)
      | (with_reducible exact ih1 _ _ _ _ _)
      | (with_reducible exact catchmentlaw02_live.mono _)
      | (with_reducible exact catchmentref02_Between.mono _ _ _)
      | (with_reducible exact key_Between.mono _ _ _)
      | (with_reducible exact key_Shared.mono _ _ _)
      | (with_reducible exact LeO.refl _)
      | (with_reducible exact LeO.none _)
      | (with_reducible refine LeO.ite ?_ ?_)
      | (with_reducible refine LeO.bind ?_ (fun _ => ?_))
      | exact ih0 _ _ _
      | exact ih1 _ _ _ _ _
      | exact catchmentlaw02_live.mono _
      | exact catchmentref02_Between.mono _ _ _
      | exact key_Between.mono _ _ _
      | exact key_Shared.mono _ _ _
      | exact LeO.none _
      | refine LeO.ite ?_ ?_
      | refine LeO.bind ?_ (fun _ => ?_)
theorem catchmentlaw02_KeyBetween.mono : ∀ a0 a1 k, LeO (catchmentlaw02_KeyBetween.f k a0 a1) (catchmentlaw02_KeyBetween.f (k + 1) a0 a1) := by
  intro a0 a1 k
  obtain ⟨ih0, ih1⟩ := catchmentlaw02_KeyBetween.mono_l k
  unfold catchmentlaw02_KeyBetween.f
  repeat' first
      | (with_reducible exact ih0 _ _ _)
      | (with_reducible exact ih1 _ _ _ _ _)
      | (with_reducible exact catchmentlaw02_live.mono _)
      | (with_reducible exact catchmentref02_Between.mono _ _ _)
      | (with_reducible exact key_Between.mono _ _ _)
      | (with_reducible exact key_Shared.mono _ _ _)
      | (with_reducible exact LeO.refl _)
      | (with_reducible exact LeO.none _)
      | (with_reducible refine LeO.ite ?_ ?_)
      | (with_reducible refine LeO.bind ?_ (fun _ => ?_))
      | exact ih0 _ _ _
      | exact ih1 _ _ _ _ _
      | exact catchmentlaw02_live.mono _
      | exact catchmentref02_Between.mono _ _ _
      | exact key_Between.mono _ _ _
      | exact key_Shared.mono _ _ _
      | exact LeO.none _
      | refine LeO.ite ?_ ?_
      | refine LeO.bind ?_ (fun _ => ?_)
set_option maxHeartbeats 8000000 in
set_option maxRecDepth 100000 in
theorem catchmentlaw02_KeyBetween.calls (k : Nat) (a0 : ByteArray) (a1 : ByteArray) (r : Bool) (w : World) (h : catchmentlaw02_KeyBetween.f k a0 a1 = some r) :
    Calls Try.prog 3 #[.string a0, .string a1] w fun e w' => e = .returned (.bool r) ∧ Below w.heap.size w w' := by
  have HB := Aside0.mk (Below.refl w.heap.size w)
  have H : (if (a0.size : Int) > 300 then (catchmentlaw02_KeyBetween.j0 k a0 a1 true) else (catchmentlaw02_KeyBetween.j0 k a0 a1 (decide ((a1.size : Int) > 300)))) = some r := h
  clear h
  have HC3 := Aside0.mk H
  clear H
  go_enter Try.func3, Try.ntmps3
  go_upto_region 1 with (fail)
  repeat (go_quiet (fail); go_upto_region 1 with (fail))
  go_cut [14] (fun v14 wc => ∃ (kq : Nat) (x14_2 : Bool), v14 = .bool x14_2 ∧ Aside0 (catchmentlaw02_KeyBetween.j0 kq a0 a1 x14_2 = some r) ∧ Aside0 (kq ≤ k) ∧ Aside0 (Below w.heap.size w wc))
  case first =>
    have H := HC3.out
    clear HC3
    by_cases c4 : (a0.size : Int) > 300
    · rw [if_pos c4] at H
      have c4b0 : decide (300 < (a0.size : Int)) = true := decide_eq_true c4
      have c4b1 : decide (300 < a0.size) = true := decide_eq_true (by omega)
      clear c4
      (first | rw [c4b0] | (simp only [i64_w, i32_w]; rw [c4b0]) | skip)
      have H' := Aside0.mk H
      clear H
      go_wp2
      repeat (go_quiet (fail); try go_wp2)
      go_meet
      case rel => exact ⟨_, (true), (by first | rfl | (simp; done) | (simp [*]; done)), H', ⟨by first | omega | exact Nat.le_refl _⟩, ⟨by repeat (first | (with_reducible first | exact HB.out | apply below_alloc | apply pw_below_drewN | apply below_drew1) | exact HB.out)⟩⟩
    · rw [if_neg c4] at H
      have c4b0 : decide (300 < (a0.size : Int)) = false := decide_eq_false c4
      have c4b1 : decide (300 < a0.size) = false := decide_eq_false (by omega)
      clear c4
      (first | rw [c4b0] | (simp only [i64_w, i32_w]; rw [c4b0]) | skip)
      have H' := Aside0.mk H
      clear H
      go_wp2
      repeat (go_quiet (fail); try go_wp2)
      go_meet
      case rel => exact ⟨_, (decide ((a1.size : Int) > 300)), (by first | rfl | (simp; done) | (simp [*]; done)), H', ⟨by first | omega | exact Nat.le_refl _⟩, ⟨by repeat (first | (with_reducible first | exact HB.out | apply below_alloc | apply pw_below_drewN | apply below_drew1) | exact HB.out)⟩⟩
  case rest =>
    clear HC3
    try clear p2
    try clear c3
    try clear c4
    try clear c4b0
    try clear c4b1
    obtain ⟨kq, x14_2, rfl, HA, HJ2, HB⟩ := hcut
    cases kq with
    | zero => exact absurd HA.out (by simp [catchmentlaw02_KeyBetween.j0])
    | succ kj2 =>
      have H := HA.out
      clear HA
      simp only [catchmentlaw02_KeyBetween.j0] at H
      by_cases c5 : x14_2 = true
      · subst c5
        have H1 : ((catchmentlaw02_live.f kj2).bind fun t121 => (some t121)) = some r := by rw [if_pos rfl] at H; exact H
        clear H
        have H := H1
        clear H1
        replace H := Option.bind_eq_some_iff.mp H
        obtain ⟨t121, A60, H⟩ := H
        replace H : (some t121) = some r := H
        have A6 := Aside0.mk A60
        clear A60
        obtain rfl := Option.some.inj H
        go_wp2_with (first | (go_at_call 14; (with_reducible refine (catchmentlaw02_live.calls kj2  t121 _ A6.out).mono ?_); rintro e w7 ⟨rfl, hb⟩; have n0_ := Aside0.mk (below_step (by repeat (first | (with_reducible first | exact HB.out | apply below_alloc | apply pw_below_drewN | apply below_drew1) | exact HB.out)) hb); clear HB; have HB := n0_; clear n0_; (try clear hb); (try clear hb2); (try clear hk); (try clear hi)))
        repeat (go_quiet (first | (go_at_call 14; (with_reducible refine (catchmentlaw02_live.calls kj2  t121 _ A6.out).mono ?_); rintro e w7 ⟨rfl, hb⟩; have n0_ := Aside0.mk (below_step (by repeat (first | (with_reducible first | exact HB.out | apply below_alloc | apply pw_below_drewN | apply below_drew1) | exact HB.out)) hb); clear HB; have HB := n0_; clear n0_; (try clear hb); (try clear hb2); (try clear hk); (try clear hi))); try go_wp2_with (first | (go_at_call 14; (with_reducible refine (catchmentlaw02_live.calls kj2  t121 _ A6.out).mono ?_); rintro e w7 ⟨rfl, hb⟩; have n0_ := Aside0.mk (below_step (by repeat (first | (with_reducible first | exact HB.out | apply below_alloc | apply pw_below_drewN | apply below_drew1) | exact HB.out)) hb); clear HB; have HB := n0_; clear n0_; (try clear hb); (try clear hb2); (try clear hk); (try clear hi))))
        go_ret
        exact ⟨by first | rfl | (simp [errW_none, errW_some] <;> rfl) | (simp [*, errW_none, errW_some] <;> rfl), by repeat (first | (with_reducible first | exact HB.out | apply below_alloc | apply pw_below_drewN | apply below_drew1) | exact HB.out)⟩
      · replace c5 := Bool.eq_false_iff.mpr c5
        subst c5
        have H1 : ((key_Between.f kj2 a0 a1).bind fun t122 => ((key_Shared.f kj2 a0 a1).bind fun t123 => (if t123 < 0 then (catchmentlaw02_KeyBetween.j1 kj2 a0 a1 t122 t123 true) else (if t123 > (a0.size : Int) then (catchmentlaw02_KeyBetween.j1 kj2 a0 a1 t122 t123 true) else (if t123 > (a1.size : Int) then (catchmentlaw02_KeyBetween.j1 kj2 a0 a1 t122 t123 true) else (if 0 ≤ t123 then (if t123 ≤ (a0.size : Int) then (if t123 ≤ (a1.size : Int) then (if (a0.extract 0 (t123 : Int).toNat).toList = (a1.extract 0 (t123 : Int).toNat).toList then (if t123 < (a0.size : Int) then (if t123 < (a1.size : Int) then (catchmentlaw02_KeyBetween.j1 kj2 a0 a1 t122 t123 ((bt a0 t123) == (bt a1 t123))) else (catchmentlaw02_KeyBetween.j1 kj2 a0 a1 t122 t123 false)) else (catchmentlaw02_KeyBetween.j1 kj2 a0 a1 t122 t123 false)) else (catchmentlaw02_KeyBetween.j1 kj2 a0 a1 t122 t123 true)) else (none)) else (none)) else (none))))))) = some r := by rw [if_neg (show ¬ (false = true) by decide)] at H; exact H
        clear H
        have H := H1
        clear H1
        replace H := Option.bind_eq_some_iff.mp H
        obtain ⟨t122, A80, H⟩ := H
        replace H : ((key_Shared.f kj2 a0 a1).bind fun t123 => (if t123 < 0 then (catchmentlaw02_KeyBetween.j1 kj2 a0 a1 t122 t123 true) else (if t123 > (a0.size : Int) then (catchmentlaw02_KeyBetween.j1 kj2 a0 a1 t122 t123 true) else (if t123 > (a1.size : Int) then (catchmentlaw02_KeyBetween.j1 kj2 a0 a1 t122 t123 true) else (if 0 ≤ t123 then (if t123 ≤ (a0.size : Int) then (if t123 ≤ (a1.size : Int) then (if (a0.extract 0 (t123 : Int).toNat).toList = (a1.extract 0 (t123 : Int).toNat).toList then (if t123 < (a0.size : Int) then (if t123 < (a1.size : Int) then (catchmentlaw02_KeyBetween.j1 kj2 a0 a1 t122 t123 ((bt a0 t123) == (bt a1 t123))) else (catchmentlaw02_KeyBetween.j1 kj2 a0 a1 t122 t123 false)) else (catchmentlaw02_KeyBetween.j1 kj2 a0 a1 t122 t123 false)) else (catchmentlaw02_KeyBetween.j1 kj2 a0 a1 t122 t123 true)) else (none)) else (none)) else (none)))))) = some r := H
        have A8 := Aside0.mk A80
        clear A80
        replace H := Option.bind_eq_some_iff.mp H
        obtain ⟨t123, A90, H⟩ := H
        replace H : (if t123 < 0 then (catchmentlaw02_KeyBetween.j1 kj2 a0 a1 t122 t123 true) else (if t123 > (a0.size : Int) then (catchmentlaw02_KeyBetween.j1 kj2 a0 a1 t122 t123 true) else (if t123 > (a1.size : Int) then (catchmentlaw02_KeyBetween.j1 kj2 a0 a1 t122 t123 true) else (if 0 ≤ t123 then (if t123 ≤ (a0.size : Int) then (if t123 ≤ (a1.size : Int) then (if (a0.extract 0 (t123 : Int).toNat).toList = (a1.extract 0 (t123 : Int).toNat).toList then (if t123 < (a0.size : Int) then (if t123 < (a1.size : Int) then (catchmentlaw02_KeyBetween.j1 kj2 a0 a1 t122 t123 ((bt a0 t123) == (bt a1 t123))) else (catchmentlaw02_KeyBetween.j1 kj2 a0 a1 t122 t123 false)) else (catchmentlaw02_KeyBetween.j1 kj2 a0 a1 t122 t123 false)) else (catchmentlaw02_KeyBetween.j1 kj2 a0 a1 t122 t123 true)) else (none)) else (none)) else (none))))) = some r := H
        have A9 := Aside0.mk A90
        clear A90
        have HC10 := Aside0.mk H
        clear H
        go_upto_region 5 with (first | (go_at_call 15; (with_reducible refine (key_Between.calls kj2 a0 a1 t122 _ A8.out).mono ?_); rintro e w11 ⟨rfl, hb⟩; have n0_ := Aside0.mk (below_step (by repeat (first | (with_reducible first | exact HB.out | apply below_alloc | apply pw_below_drewN | apply below_drew1) | exact HB.out)) hb); clear HB; have HB := n0_; clear n0_; (try clear hb); (try clear hb2); (try clear hk); (try clear hi)) | (go_at_call 16; (with_reducible refine (key_Shared.calls kj2 a0 a1 t123 _ A9.out).mono ?_); rintro e w12 ⟨rfl, hb⟩; have n0_ := Aside0.mk (below_step (by repeat (first | (with_reducible first | exact HB.out | apply below_alloc | apply pw_below_drewN | apply below_drew1) | exact HB.out)) hb); clear HB; have HB := n0_; clear n0_; (try clear hb); (try clear hb2); (try clear hk); (try clear hi)))
        repeat (go_quiet (first | (go_at_call 15; (with_reducible refine (key_Between.calls kj2 a0 a1 t122 _ A8.out).mono ?_); rintro e w11 ⟨rfl, hb⟩; have n0_ := Aside0.mk (below_step (by repeat (first | (with_reducible first | exact HB.out | apply below_alloc | apply pw_below_drewN | apply below_drew1) | exact HB.out)) hb); clear HB; have HB := n0_; clear n0_; (try clear hb); (try clear hb2); (try clear hk); (try clear hi)) | (go_at_call 16; (with_reducible refine (key_Shared.calls kj2 a0 a1 t123 _ A9.out).mono ?_); rintro e w12 ⟨rfl, hb⟩; have n0_ := Aside0.mk (below_step (by repeat (first | (with_reducible first | exact HB.out | apply below_alloc | apply pw_below_drewN | apply below_drew1) | exact HB.out)) hb); clear HB; have HB := n0_; clear n0_; (try clear hb); (try clear hb2); (try clear hk); (try clear hi))); go_upto_region 5 with (first | (go_at_call 15; (with_reducible refine (key_Between.calls kj2 a0 a1 t122 _ A8.out).mono ?_); rintro e w11 ⟨rfl, hb⟩; have n0_ := Aside0.mk (below_step (by repeat (first | (with_reducible first | exact HB.out | apply below_alloc | apply pw_below_drewN | apply below_drew1) | exact HB.out)) hb); clear HB; have HB := n0_; clear n0_; (try clear hb); (try clear hb2); (try clear hk); (try clear hi)) | (go_at_call 16; (with_reducible refine (key_Shared.calls kj2 a0 a1 t123 _ A9.out).mono ?_); rintro e w12 ⟨rfl, hb⟩; have n0_ := Aside0.mk (below_step (by repeat (first | (with_reducible first | exact HB.out | apply below_alloc | apply pw_below_drewN | apply below_drew1) | exact HB.out)) hb); clear HB; have HB := n0_; clear n0_; (try clear hb); (try clear hb2); (try clear hk); (try clear hi))))
        (try simp only [Act.put, List.setIfInBounds_toArray, List.set_cons_zero, List.set_cons_succ])
        go_cut [65] (fun v65 wc => ∃ (kq : Nat) (x65_9 : Bool), v65 = .bool x65_9 ∧ Aside0 (catchmentlaw02_KeyBetween.j1 kq a0 a1 t122 t123 x65_9 = some r) ∧ Aside0 (kq ≤ kj2) ∧ Aside0 (Below w.heap.size w wc))
        case first =>
          have H := HC10.out
          clear HC10
          by_cases c13 : t123 < 0
          · rw [if_pos c13] at H
            have c13b0 : decide (t123 < 0) = true := decide_eq_true c13
            clear c13
            (first | rw [c13b0] | (simp only [i64_w, i32_w]; rw [c13b0]) | skip)
            have H' := Aside0.mk H
            clear H
            go_wp2
            repeat (go_quiet (fail); try go_wp2)
            go_meet
            case rel => exact ⟨_, (true), (by first | rfl | (simp; done) | (simp [*]; done)), H', ⟨by have := HJ2.out; first | omega | exact Nat.le_refl _⟩, ⟨by repeat (first | (with_reducible first | exact HB.out | apply below_alloc | apply pw_below_drewN | apply below_drew1) | exact HB.out)⟩⟩
          · rw [if_neg c13] at H
            have c13b0 : decide (t123 < 0) = false := decide_eq_false c13
            clear c13
            (first | rw [c13b0] | (simp only [i64_w, i32_w]; rw [c13b0]) | skip)
            by_cases c14 : t123 > (a0.size : Int)
            · rw [if_pos c14] at H
              have c14b0 : decide ((a0.size : Int) < t123) = true := decide_eq_true c14
              clear c14
              have H' := Aside0.mk H
              clear H
              go_wp2
              repeat (go_quiet (fail); try go_wp2)
              go_meet
              case rel => exact ⟨_, (true), (by first | rfl | (simp; done) | (simp [*]; done)), H', ⟨by have := HJ2.out; first | omega | exact Nat.le_refl _⟩, ⟨by repeat (first | (with_reducible first | exact HB.out | apply below_alloc | apply pw_below_drewN | apply below_drew1) | exact HB.out)⟩⟩
            · rw [if_neg c14] at H
              have c14b0 : decide ((a0.size : Int) < t123) = false := decide_eq_false c14
              clear c14
              by_cases c15 : t123 > (a1.size : Int)
              · rw [if_pos c15] at H
                have c15b0 : decide ((a1.size : Int) < t123) = true := decide_eq_true c15
                clear c15
                have H' := Aside0.mk H
                clear H
                go_wp2
                repeat (go_quiet (fail); try go_wp2)
                go_meet
                case rel => exact ⟨_, (true), (by first | rfl | (simp; done) | (simp [*]; done)), H', ⟨by have := HJ2.out; first | omega | exact Nat.le_refl _⟩, ⟨by repeat (first | (with_reducible first | exact HB.out | apply below_alloc | apply pw_below_drewN | apply below_drew1) | exact HB.out)⟩⟩
              · rw [if_neg c15] at H
                have c15b0 : decide ((a1.size : Int) < t123) = false := decide_eq_false c15
                clear c15
                by_cases c16 : 0 ≤ t123
                · rw [if_pos c16] at H
                  have c16b0 := eq_true c16
                  have c16b1 : decide (0 ≤ t123) = true := decide_eq_true c16
                  clear c16
                  by_cases c17 : t123 ≤ (a0.size : Int)
                  · rw [if_pos c17] at H
                    have c17b0 := eq_true c17
                    have c17b1 : decide (t123 ≤ (a0.size : Int)) = true := decide_eq_true c17
                    clear c17
                    have c18b0 := eq_true (of_decide_eq_true (by first | (with_reducible assumption) | assumption) : 0 ≤ t123)
                    by_cases c19 : t123 ≤ (a1.size : Int)
                    · rw [if_pos c19] at H
                      have c19b0 := eq_true c19
                      have c19b1 : decide (t123 ≤ (a1.size : Int)) = true := decide_eq_true c19
                      clear c19
                      by_cases c20 : (a0.extract 0 (t123 : Int).toNat).toList = (a1.extract 0 (t123 : Int).toNat).toList
                      · rw [if_pos c20] at H
                        have c20b0 : ((a0.extract 0 (t123 : Int).toNat).toList == (a1.extract 0 (t123 : Int).toNat).toList) = true := beq_iff_eq.mpr c20
                        have c20b1 : ((a0.extract 0 (t123 : Int).toNat).toList != (a1.extract 0 (t123 : Int).toNat).toList) = false := bne_eq_false_iff_eq.mpr c20
                        clear c20
                        by_cases c21 : t123 < (a0.size : Int)
                        · rw [if_pos c21] at H
                          have c21b0 : decide (t123 < (a0.size : Int)) = true := decide_eq_true c21
                          clear c21
                          by_cases c22 : t123 < (a1.size : Int)
                          · rw [if_pos c22] at H
                            have c22b0 : decide (t123 < (a1.size : Int)) = true := decide_eq_true c22
                            clear c22
                            have H' := Aside0.mk H
                            clear H
                            have p23 : 0 ≤ (t123 : Int) := of_decide_eq_true (by first | (with_reducible assumption) | assumption)
                            have q23 : t123 < (a0.size : Int) := of_decide_eq_true (by first | (with_reducible assumption) | assumption)
                            have hx23 := bt_at a0 t123
                            replace p23 := eq_true p23
                            replace q23 := eq_true q23
                            have p24 : 0 ≤ (t123 : Int) := of_decide_eq_true (by first | (with_reducible assumption) | assumption)
                            have q24 : t123 < (a1.size : Int) := of_decide_eq_true (by first | (with_reducible assumption) | assumption)
                            have hx24 := bt_at a1 t123
                            replace p24 := eq_true p24
                            replace q24 := eq_true q24
                            go_wp2
                            repeat (go_quiet (fail); try go_wp2)
                            go_meet
                            case rel => exact ⟨_, (((bt a0 t123) == (bt a1 t123))), (by first | rfl | (simp; done) | (simp [*]; done)), H', ⟨by have := HJ2.out; first | omega | exact Nat.le_refl _⟩, ⟨by repeat (first | (with_reducible first | exact HB.out | apply below_alloc | apply pw_below_drewN | apply below_drew1) | exact HB.out)⟩⟩
                          · rw [if_neg c22] at H
                            have c22b0 : decide (t123 < (a1.size : Int)) = false := decide_eq_false c22
                            clear c22
                            have H' := Aside0.mk H
                            clear H
                            go_wp2
                            repeat (go_quiet (fail); try go_wp2)
                            go_meet
                            case rel => exact ⟨_, (false), (by first | rfl | (simp; done) | (simp [*]; done)), H', ⟨by have := HJ2.out; first | omega | exact Nat.le_refl _⟩, ⟨by repeat (first | (with_reducible first | exact HB.out | apply below_alloc | apply pw_below_drewN | apply below_drew1) | exact HB.out)⟩⟩
                        · rw [if_neg c21] at H
                          have c21b0 : decide (t123 < (a0.size : Int)) = false := decide_eq_false c21
                          clear c21
                          have H' := Aside0.mk H
                          clear H
                          go_wp2
                          repeat (go_quiet (fail); try go_wp2)
                          go_meet
                          case rel => exact ⟨_, (false), (by first | rfl | (simp; done) | (simp [*]; done)), H', ⟨by have := HJ2.out; first | omega | exact Nat.le_refl _⟩, ⟨by repeat (first | (with_reducible first | exact HB.out | apply below_alloc | apply pw_below_drewN | apply below_drew1) | exact HB.out)⟩⟩
                      · rw [if_neg c20] at H
                        have c20b0 : ((a0.extract 0 (t123 : Int).toNat).toList == (a1.extract 0 (t123 : Int).toNat).toList) = false := beq_eq_false_iff_ne.mpr c20
                        have c20b1 : ((a0.extract 0 (t123 : Int).toNat).toList != (a1.extract 0 (t123 : Int).toNat).toList) = true := bne_iff_ne.mpr c20
                        have H' := Aside0.mk H
                        clear H
                        go_wp2
                        repeat (go_quiet (fail); try go_wp2)
                        go_meet
                        case rel => exact ⟨_, (true), (by first | rfl | (simp; done) | (simp [*]; done)), H', ⟨by have := HJ2.out; first | omega | exact Nat.le_refl _⟩, ⟨by repeat (first | (with_reducible first | exact HB.out | apply below_alloc | apply pw_below_drewN | apply below_drew1) | exact HB.out)⟩⟩
                    · rw [if_neg c19] at H
                      exact absurd H (by simp)
                  · rw [if_neg c17] at H
                    exact absurd H (by simp)
                · rw [if_neg c16] at H
                  exact absurd H (by simp)
        case rest =>
          clear HC10
          try clear c1
          try clear c2
          try clear p2
          try clear q2
          try clear hx2
          try clear c3
          try clear c4
          try clear c4b0
          try clear c4b1
          try clear c5
          try clear c13
          try clear c13b0
          try clear c14
          try clear c14b0
          try clear c15
          try clear c15b0
          try clear c16
          try clear c16b0
          try clear c16b1
          try clear c17
          try clear c17b0
          try clear c17b1
          try clear c18
          try clear c18b0
          try clear c19
          try clear c19b0
          try clear c19b1
          try clear c20
          try clear c20b0
          try clear c20b1
          try clear c21
          try clear c21b0
          try clear c22
          try clear c22b0
          try clear p23
          try clear q23
          try clear hx23
          try clear p24
          try clear q24
          try clear hx24
          try clear p2
          try clear p23
          try clear p24
          try clear q23
          try clear q24
          obtain ⟨kq, x65_9, rfl, HA, HJ9, HB⟩ := hcut
          cases kq with
          | zero => exact absurd HA.out (by simp [catchmentlaw02_KeyBetween.j1])
          | succ kj9 =>
            have H := HA.out
            clear HA
            simp only [catchmentlaw02_KeyBetween.j1] at H
            by_cases c25 : x65_9 = true
            · subst c25
              have H1 : (none) = some r := by rw [if_pos rfl] at H; exact H
              clear H
              have H := H1
              clear H1
              exact absurd H (by simp)
            · replace c25 := Bool.eq_false_iff.mpr c25
              subst c25
              have H1 : (if ((Op.bytesLess a0.toList a1.toList) = true) then ((catchmentlaw02_live.f kj9).bind fun t124 => (if t124 = true then ((catchmentref02_Between.f kj9 a0 a1).bind fun t125 => (if t122.toList = t125.toList then (if (Op.bytesLess a0.toList t122.toList) = true then (if ((Op.bytesLess a1.toList t122.toList) = true) then (none) else (some ((t122.size : Int) == (wrap64 (t123 + 1))))) else (none)) else (none))) else (none))) else ((catchmentlaw02_live.f kj9).bind fun t126 => (if t126 = true then (some (t122.toList == ([] : List UInt8))) else (none)))) = some r := by rw [if_neg (show ¬ (false = true) by decide)] at H; exact H
              clear H
              have H := H1
              clear H1
              by_cases c26 : ((Op.bytesLess a0.toList a1.toList) = true)
              · rw [if_pos c26] at H
                have c26b0 : (Op.bytesLess a0.toList a1.toList) = true := c26
                clear c26
                replace H := Option.bind_eq_some_iff.mp H
                obtain ⟨t124, A270, H⟩ := H
                replace H : (if t124 = true then ((catchmentref02_Between.f kj9 a0 a1).bind fun t125 => (if t122.toList = t125.toList then (if (Op.bytesLess a0.toList t122.toList) = true then (if ((Op.bytesLess a1.toList t122.toList) = true) then (none) else (some ((t122.size : Int) == (wrap64 (t123 + 1))))) else (none)) else (none))) else (none)) = some r := H
                have A27 := Aside0.mk A270
                clear A270
                by_cases c28 : t124 = true
                · subst c28
                  have H1 : ((catchmentref02_Between.f kj9 a0 a1).bind fun t125 => (if t122.toList = t125.toList then (if (Op.bytesLess a0.toList t122.toList) = true then (if ((Op.bytesLess a1.toList t122.toList) = true) then (none) else (some ((t122.size : Int) == (wrap64 (t123 + 1))))) else (none)) else (none))) = some r := by rw [if_pos rfl] at H; exact H
                  clear H
                  have H := H1
                  clear H1
                  replace H := Option.bind_eq_some_iff.mp H
                  obtain ⟨t125, A290, H⟩ := H
                  replace H : (if t122.toList = t125.toList then (if (Op.bytesLess a0.toList t122.toList) = true then (if ((Op.bytesLess a1.toList t122.toList) = true) then (none) else (some ((t122.size : Int) == (wrap64 (t123 + 1))))) else (none)) else (none)) = some r := H
                  have A29 := Aside0.mk A290
                  clear A290
                  by_cases c30 : t122.toList = t125.toList
                  · rw [if_pos c30] at H
                    have c30b0 : (t122.toList == t125.toList) = true := beq_iff_eq.mpr c30
                    have c30b1 : (t122.toList != t125.toList) = false := bne_eq_false_iff_eq.mpr c30
                    clear c30
                    by_cases c31 : (Op.bytesLess a0.toList t122.toList) = true
                    · rw [if_pos c31] at H
                      have c31b0 : (Op.bytesLess a0.toList t122.toList) = true := c31
                      clear c31
                      by_cases c32 : ((Op.bytesLess a1.toList t122.toList) = true)
                      · rw [if_pos c32] at H
                        exact absurd H (by simp)
                      · rw [if_neg c32] at H
                        have c32b0 : (Op.bytesLess a1.toList t122.toList) = false := by simpa using c32
                        clear c32
                        obtain rfl := Option.some.inj H
                        go_wp2_with (first | (go_at_call 14; (with_reducible refine (catchmentlaw02_live.calls kj9  true _ A27.out).mono ?_); rintro e w33 ⟨rfl, hb⟩; have n0_ := Aside0.mk (below_step (by repeat (first | (with_reducible first | exact HB.out | apply below_alloc | apply pw_below_drewN | apply below_drew1) | exact HB.out)) hb); clear HB; have HB := n0_; clear n0_; (try clear hb); (try clear hb2); (try clear hk); (try clear hi)) | (go_at_call 17; (with_reducible refine (catchmentref02_Between.calls kj9 a0 a1 t125 _ A29.out).mono ?_); rintro e w' ⟨rfl, ⟨nd, rfl⟩⟩; (try first | exact ⟨rfl, _, World.drewN_drewN _ _ _⟩ | exact ⟨rfl, _, Eq.trans (World.drewN_drewN _ _ _) (congrArg (World.drewN _) (Nat.add_assoc _ _ _))⟩)))
                        repeat (go_quiet (first | (go_at_call 14; (with_reducible refine (catchmentlaw02_live.calls kj9  true _ A27.out).mono ?_); rintro e w33 ⟨rfl, hb⟩; have n0_ := Aside0.mk (below_step (by repeat (first | (with_reducible first | exact HB.out | apply below_alloc | apply pw_below_drewN | apply below_drew1) | exact HB.out)) hb); clear HB; have HB := n0_; clear n0_; (try clear hb); (try clear hb2); (try clear hk); (try clear hi)) | (go_at_call 17; (with_reducible refine (catchmentref02_Between.calls kj9 a0 a1 t125 _ A29.out).mono ?_); rintro e w' ⟨rfl, ⟨nd, rfl⟩⟩; (try first | exact ⟨rfl, _, World.drewN_drewN _ _ _⟩ | exact ⟨rfl, _, Eq.trans (World.drewN_drewN _ _ _) (congrArg (World.drewN _) (Nat.add_assoc _ _ _))⟩))); try go_wp2_with (first | (go_at_call 14; (with_reducible refine (catchmentlaw02_live.calls kj9  true _ A27.out).mono ?_); rintro e w33 ⟨rfl, hb⟩; have n0_ := Aside0.mk (below_step (by repeat (first | (with_reducible first | exact HB.out | apply below_alloc | apply pw_below_drewN | apply below_drew1) | exact HB.out)) hb); clear HB; have HB := n0_; clear n0_; (try clear hb); (try clear hb2); (try clear hk); (try clear hi)) | (go_at_call 17; (with_reducible refine (catchmentref02_Between.calls kj9 a0 a1 t125 _ A29.out).mono ?_); rintro e w' ⟨rfl, ⟨nd, rfl⟩⟩; (try first | exact ⟨rfl, _, World.drewN_drewN _ _ _⟩ | exact ⟨rfl, _, Eq.trans (World.drewN_drewN _ _ _) (congrArg (World.drewN _) (Nat.add_assoc _ _ _))⟩))))
                        go_ret
                        exact ⟨by first | rfl | (simp [errW_none, errW_some] <;> rfl) | (simp [*, errW_none, errW_some] <;> rfl), by repeat (first | (with_reducible first | exact HB.out | apply below_alloc | apply pw_below_drewN | apply below_drew1) | exact HB.out)⟩
                    · rw [if_neg c31] at H
                      exact absurd H (by simp)
                  · rw [if_neg c30] at H
                    exact absurd H (by simp)
                · replace c28 := Bool.eq_false_iff.mpr c28
                  subst c28
                  have H1 : (none) = some r := by rw [if_neg (show ¬ (false = true) by decide)] at H; exact H
                  clear H
                  have H := H1
                  clear H1
                  exact absurd H (by simp)
              · rw [if_neg c26] at H
                have c26b0 : (Op.bytesLess a0.toList a1.toList) = false := by simpa using c26
                clear c26
                replace H := Option.bind_eq_some_iff.mp H
                obtain ⟨t126, A340, H⟩ := H
                replace H : (if t126 = true then (some (t122.toList == ([] : List UInt8))) else (none)) = some r := H
                have A34 := Aside0.mk A340
                clear A340
                by_cases c35 : t126 = true
                · subst c35
                  have H1 : (some (t122.toList == ([] : List UInt8))) = some r := by rw [if_pos rfl] at H; exact H
                  clear H
                  have H := H1
                  clear H1
                  obtain rfl := Option.some.inj H
                  go_wp2_with (first | (go_at_call 14; (with_reducible refine (catchmentlaw02_live.calls kj9  true _ A34.out).mono ?_); rintro e w36 ⟨rfl, hb⟩; have n0_ := Aside0.mk (below_step (by repeat (first | (with_reducible first | exact HB.out | apply below_alloc | apply pw_below_drewN | apply below_drew1) | exact HB.out)) hb); clear HB; have HB := n0_; clear n0_; (try clear hb); (try clear hb2); (try clear hk); (try clear hi)))
                  repeat (go_quiet (first | (go_at_call 14; (with_reducible refine (catchmentlaw02_live.calls kj9  true _ A34.out).mono ?_); rintro e w36 ⟨rfl, hb⟩; have n0_ := Aside0.mk (below_step (by repeat (first | (with_reducible first | exact HB.out | apply below_alloc | apply pw_below_drewN | apply below_drew1) | exact HB.out)) hb); clear HB; have HB := n0_; clear n0_; (try clear hb); (try clear hb2); (try clear hk); (try clear hi))); try go_wp2_with (first | (go_at_call 14; (with_reducible refine (catchmentlaw02_live.calls kj9  true _ A34.out).mono ?_); rintro e w36 ⟨rfl, hb⟩; have n0_ := Aside0.mk (below_step (by repeat (first | (with_reducible first | exact HB.out | apply below_alloc | apply pw_below_drewN | apply below_drew1) | exact HB.out)) hb); clear HB; have HB := n0_; clear n0_; (try clear hb); (try clear hb2); (try clear hk); (try clear hi))))
                  go_ret
                  exact ⟨by first | rfl | (simp [errW_none, errW_some] <;> rfl) | (simp [*, errW_none, errW_some] <;> rfl), by repeat (first | (with_reducible first | exact HB.out | apply below_alloc | apply pw_below_drewN | apply below_drew1) | exact HB.out)⟩
                · replace c35 := Bool.eq_false_iff.mpr c35
                  subst c35
                  have H1 : (none) = some r := by rw [if_neg (show ¬ (false = true) by decide)] at H; exact H
                  clear H
                  have H := H1
                  clear H1
                  exact absurd H (by simp)
/-- THE ONE PURE STATEMENT of catchmentlaw02_KeyBetween. -/
def catchmentlaw02_KeyBetween.Pure : Prop := ∀ (a0 : ByteArray) (a1 : ByteArray), (fun s : ByteArray => s.size ≤ 140737488351232) a0 → (fun s : ByteArray => s.size ≤ 140737488351232) a1 → ∃ k, catchmentlaw02_KeyBetween.f k a0 a1 = some true
theorem catchmentlaw02_KeyBetween.walk (P : catchmentlaw02_KeyBetween.Pure) (a0 : ByteArray) (a1 : ByteArray) (w : World)  (ok_0 : (fun s : ByteArray => s.size ≤ 140737488351232) a0) (ok_1 : (fun s : ByteArray => s.size ≤ 140737488351232) a1) :
    Calls Try.prog 3 #[.string a0, .string a1] w fun e w' => e = .returned (.bool true) ∧ Below w.heap.size w w' := by
  obtain ⟨k, h⟩ := P a0 a1 ok_0 ok_1
  refine (catchmentlaw02_KeyBetween.calls k a0 a1 true w h).mono ?_
  rintro e w' ⟨rfl, hd⟩
  exact ⟨rfl, hd⟩

end Go.Proofs.Ytdlhiadekgnieaa.Q1
