-- written by a program of this session (wip/myprint.py), over the kit's printer and the session's own contracts
import Derived.Test.YtnklnjghecmihaaH6x0
namespace Go.Proofs.Ytnklnjghecmihaa.H6
open Go.RowKit Go.Proofs.YtnklnjghecmihaaW.PrintWords Go.Proofs.YtnklnjghecmihaaW.PrintLast Go.Proofs.YtnklnjghecmihaaW.PrintMore Go.Proofs.YtnklnjghecmihaaW.Mine
attribute [local go_sem] max2_int min2_int max_two min_two max_three min_three max_four min_four max2_str min2_str binOp_gtr_str binOp_leq_str binOp_geq_str   -- for this text's walks alone
set_option linter.unusedVariables false
set_option linter.unusedSimpArgs false

/-! ### catchmentref10_shared: function 78 -/
mutual
def catchmentref10_shared.l0 : Nat → ByteArray → ByteArray → Int → Option (Int)
  | 0, _, _, _ => none
  | k + 1, x0, x1, x5 => if x5 < (x0.size : Int) then (if x5 < (x1.size : Int) then (if 0 ≤ x5 then (catchmentref10_shared.j1 k x0 x1 x5 ((bt x0 x5) == (bt x1 x5))) else (none)) else (catchmentref10_shared.j1 k x0 x1 x5 false)) else (catchmentref10_shared.j1 k x0 x1 x5 false)
def catchmentref10_shared.j1 : Nat → ByteArray → ByteArray → Int → Bool → Option (Int)
  | 0, _, _, _, _ => none
  | k + 1, x0, x1, x5, x24 => if x24 = true then (catchmentref10_shared.l0 k x0 x1 (wrap64 (x5 + 1))) else (some x5)
end
def catchmentref10_shared.f (k : Nat) (a0 : ByteArray) (a1 : ByteArray) : Option (Int) := catchmentref10_shared.l0 k a0 a1 0
theorem catchmentref10_shared.mono_l : ∀ k, (∀ y0 y1 y2, LeO (catchmentref10_shared.l0 k y0 y1 y2) (catchmentref10_shared.l0 (k + 1) y0 y1 y2)) ∧ (∀ y0 y1 y2 y3, LeO (catchmentref10_shared.j1 k y0 y1 y2 y3) (catchmentref10_shared.j1 (k + 1) y0 y1 y2 y3))
  | 0 => ⟨fun _ _ _ r h => by simp [catchmentref10_shared.l0] at h, fun _ _ _ _ r h => by simp [catchmentref10_shared.j1] at h⟩
  | k + 1 => by
    obtain ⟨ih0, ih1⟩ := catchmentref10_shared.mono_l k
    refine ⟨?_, ?_⟩
    · intro y0 y1 y2
      unfold catchmentref10_shared.l0
      repeat' first
      | (with_reducible exact ih0 _ _ _)
      | (with_reducible exact ih1 _ _ _ _)
      | (with_reducible exact LeO.refl _)
      | (with_reducible exact LeO.none _)
      | (with_reducible refine LeO.ite ?_ ?_)
      | (with_reducible refine LeO.bind ?_ (fun _ => ?_))
      | exact ih0 _ _ _
      | exact ih1 _ _ _ _
      | exact LeO.none _
      | refine LeO.ite ?_ ?_
      | refine LeO.bind ?_ (fun _ => ?_)
    · intro y0 y1 y2 y3
      unfold catchmentref10_shared.j1
      repeat' first
      | (with_reducible exact ih0 _ _ _)
      | (with_reducible exact ih1 _ _ _ _)
      | (with_reducible exact LeO.refl _)
      | (with_reducible exact LeO.none _)
      | (with_reducible refine LeO.ite ?_ ?_)
      | (with_reducible refine LeO.bind ?_ (fun _ => ?_))
      | exact ih0 _ _ _
      | exact ih1 _ _ _ _
      | exact LeO.none _
      | refine LeO.ite ?_ ?_
      | refine LeO.bind ?_ (fun _ => ?_)
theorem catchmentref10_shared.mono : ∀ a0 a1 k, LeO (catchmentref10_shared.f k a0 a1) (catchmentref10_shared.f (k + 1) a0 a1) := by
  (intro a0 a1 k); (obtain ⟨ih0, ih1⟩ := catchmentref10_shared.mono_l k); (unfold catchmentref10_shared.f)
  repeat' first
      | (with_reducible exact ih0 _ _ _)
      | (with_reducible exact ih1 _ _ _ _)
      | (with_reducible exact LeO.refl _)
      | (with_reducible exact LeO.none _)
      | (with_reducible refine LeO.ite ?_ ?_)
      | (with_reducible refine LeO.bind ?_ (fun _ => ?_))
      | exact ih0 _ _ _
      | exact ih1 _ _ _ _
      | exact LeO.none _
      | refine LeO.ite ?_ ?_
      | refine LeO.bind ?_ (fun _ => ?_)
set_option maxHeartbeats 8000000 in
set_option maxRecDepth 100000 in
theorem catchmentref10_shared.calls (k : Nat) (a0 : ByteArray) (a1 : ByteArray) (r : Int) (w : World) (h : catchmentref10_shared.f k a0 a1 = some r) :
    Calls Try.prog 78 #[.string a0, .string a1] w fun e w' => e = .returned (.int .i64 r) ∧ Drawn0 w w' := by
  (have H : (catchmentref10_shared.l0 k a0 a1 0) = some r := h); (clear h); (have H' := Aside0.mk H); (clear H); (go_enter Try.func78, Try.ntmps78); (go_wp2); (repeat (go_quiet (fail); try go_wp2)); (go_loopg [5] k (fun kq v5 w' => ∃ (x5_1 : Int), v5 = .int .i64 x5_1 ∧ Aside0 (catchmentref10_shared.l0 kq a0 a1 x5_1 = some r) ∧ Aside0 (kq ≤ k) ∧ Drawn0 w w'))
  case atStart => exact ⟨(0), (by first | rfl | (simp; done) | (simp [*]; done)), H', ⟨Nat.le_refl _⟩, by repeat (first | exact Drawn0.refl _ | apply Drawn0.step)⟩
  case round =>
    (clear H'); (try clear p2); (obtain ⟨x5_1, rfl, HA, HK1, ⟨m1, rfl⟩⟩ := hrel)
    cases gk with
    | zero => exact absurd HA.out (by simp [catchmentref10_shared.l0])
    | succ k1 =>
      (have H := HA.out); (clear HA); (simp only [catchmentref10_shared.l0] at H); (have HC3 := Aside0.mk H); (clear H); (go_upto_region 2 with (fail)); (repeat (go_quiet (fail); go_upto_region 2 with (fail))); (go_cut [24] (fun v24 wc => ∃ (kq : Nat) (x24_2 : Bool), v24 = .bool x24_2 ∧ Aside0 (catchmentref10_shared.j1 kq a0 a1 x5_1 x24_2 = some r) ∧ Aside0 (kq ≤ k1) ∧ Drawn0 w wc))
      case first =>
        (have H := HC3.out); (clear HC3); (by_cases c4 : x5_1 < (a0.size : Int))
        · rw [if_pos c4] at H
          (have c4b0 : decide (x5_1 < (a0.size : Int)) = true := decide_eq_true c4); (clear c4); ((first | rw [c4b0] | (simp only [i64_w, i32_w]; rw [c4b0]) | skip)); (by_cases c5 : x5_1 < (a1.size : Int))
          · rw [if_pos c5] at H
            (have c5b0 : decide (x5_1 < (a1.size : Int)) = true := decide_eq_true c5); (clear c5); (by_cases c6 : 0 ≤ x5_1)
            · rw [if_pos c6] at H
              (have c6b0 : decide (0 ≤ x5_1) = true := decide_eq_true c6); (clear c6); (have H' := Aside0.mk H); (clear H); (have p7 : 0 ≤ (x5_1 : Int) := of_decide_eq_true (by first | (with_reducible assumption) | assumption)); (have q7 : x5_1 < (a0.size : Int) := of_decide_eq_true (by first | (with_reducible assumption) | assumption)); (have hx7 := bt_at a0 x5_1); (replace p7 := eq_true p7); (replace q7 := eq_true q7); (have p8 : 0 ≤ (x5_1 : Int) := of_decide_eq_true (by first | (with_reducible assumption) | assumption)); (have q8 : x5_1 < (a1.size : Int) := of_decide_eq_true (by first | (with_reducible assumption) | assumption)); (have hx8 := bt_at a1 x5_1); (replace p8 := eq_true p8); (replace q8 := eq_true q8); (go_wp2); (repeat (go_quiet (fail); try go_wp2)); (go_meet)
              case rel => exact ⟨_, (((bt a0 x5_1) == (bt a1 x5_1))), (by first | rfl | (simp; done) | (simp [*]; done)), H', ⟨by have := HK1.out; first | omega | exact Nat.le_refl _⟩, by repeat (first | exact Drawn0.refl _ | apply Drawn0.step)⟩
            · rw [if_neg c6] at H
              exact absurd H (by simp)
          · rw [if_neg c5] at H
            (have c5b0 : decide (x5_1 < (a1.size : Int)) = false := decide_eq_false c5); (clear c5); (have H' := Aside0.mk H); (clear H); (go_wp2); (repeat (go_quiet (fail); try go_wp2)); (go_meet)
            case rel => exact ⟨_, (false), (by first | rfl | (simp; done) | (simp [*]; done)), H', ⟨by have := HK1.out; first | omega | exact Nat.le_refl _⟩, by repeat (first | exact Drawn0.refl _ | apply Drawn0.step)⟩
        · rw [if_neg c4] at H
          (have c4b0 : decide (x5_1 < (a0.size : Int)) = false := decide_eq_false c4); (clear c4); ((first | rw [c4b0] | (simp only [i64_w, i32_w]; rw [c4b0]) | skip)); (have H' := Aside0.mk H); (clear H); (go_wp2); (repeat (go_quiet (fail); try go_wp2)); (go_meet)
          case rel => exact ⟨_, (false), (by first | rfl | (simp; done) | (simp [*]; done)), H', ⟨by have := HK1.out; first | omega | exact Nat.le_refl _⟩, by repeat (first | exact Drawn0.refl _ | apply Drawn0.step)⟩
      case rest =>
        (clear HC3); (try clear p2); (try clear c4); (try clear c4b0); (try clear c5); (try clear c5b0); (try clear c6); (try clear c6b0); (try clear c7); (try clear p7); (try clear q7); (try clear hx7); (try clear p8); (try clear q8); (try clear hx8); (try clear p2); (try clear p7); (try clear p8); (try clear q7); (try clear q8); (obtain ⟨kq, x24_2, rfl, HA, HJ2, ⟨mc2, rfl⟩⟩ := hcut)
        cases kq with
        | zero => exact absurd HA.out (by simp [catchmentref10_shared.j1])
        | succ kj2 =>
          (have H := HA.out); (clear HA); (simp only [catchmentref10_shared.j1] at H); (by_cases c9 : x24_2 = true)
          · subst c9
            (have H1 : (catchmentref10_shared.l0 kj2 a0 a1 (wrap64 (x5_1 + 1))) = some r := by rw [if_pos rfl] at H; exact H); (clear H); (have H := H1); (clear H1); (have H' := Aside0.mk H); (clear H); (go_wp2); (repeat (go_quiet (fail); try go_wp2)); (go_roundg kj2)
            case measure => have := HK1.out; have := HJ2.out; omega
            case rel => exact ⟨(wrap64 (x5_1 + 1)), (by first | rfl | (simp; done) | (simp [*]; done)), H', ⟨by have := HK1.out; have := HJ2.out; omega⟩, by repeat (first | exact Drawn0.refl _ | apply Drawn0.step)⟩
          · replace c9 := Bool.eq_false_iff.mpr c9
            (subst c9); (have H1 : (some x5_1) = some r := by rw [if_neg (show ¬ (false = true) by decide)] at H; exact H); (clear H); (have H := H1); (clear H1); (obtain rfl := Option.some.inj H); (go_wp2); (repeat (go_quiet (fail); try go_wp2)); (go_ret); (exact ⟨by first | rfl | (simp; done) | (simp [*]; done), by repeat (first | exact Drawn0.refl _ | apply Drawn0.step)⟩)

end Go.Proofs.Ytnklnjghecmihaa.H6
