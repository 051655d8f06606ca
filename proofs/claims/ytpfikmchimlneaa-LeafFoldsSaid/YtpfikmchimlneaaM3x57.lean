-- written by a program of this session (wip/myprint.py), over the kit's printer and the session's own contracts
import Derived.Test.YtpfikmchimlneaaM3x0
namespace Go.Proofs.Ytpfikmchimlneaa.M3
open Go.RowKit Go.Proofs.YtpfikmchimlneaaW.PrintWords Go.Proofs.YtpfikmchimlneaaW.PrintLast Go.Proofs.YtpfikmchimlneaaW.PrintMore Go.Proofs.YtpfikmchimlneaaW.Mine
attribute [local go_sem] max2_int min2_int max_two min_two max_three min_three max_four min_four max2_str min2_str binOp_gtr_str binOp_leq_str binOp_geq_str   -- for this text's walks alone
set_option linter.unusedVariables false
set_option linter.unusedSimpArgs false

/-! ### fold_Rises: function 82 -/
def fold_Rises.l0 : Nat → List (S85) → Int → Int → Option (Bool)
  | 0, _, _, _ => none
  | k + 1, x0, x5, x6 => if x6 < x5 then (if x6 > 0 then (if 0 ≤ (wrap64 (x6 - 1)) then (if (wrap64 (x6 - 1)) < (x0.length : Int) then (if 0 ≤ x6 then (if x6 < (x0.length : Int) then (if ((Op.bytesLess (((rd_T85 x0 (wrap64 (x6 - 1))).f0).toList) (((rd_T85 x0 x6).f0).toList)) = true) then (fold_Rises.l0 k x0 x5 (wrap64 (x6 + 1))) else (some false)) else (none)) else (none)) else (none)) else (none)) else (fold_Rises.l0 k x0 x5 (wrap64 (x6 + 1)))) else (some true)
def fold_Rises.f (k : Nat) (l0 : List (S85)) : Option (Bool) := fold_Rises.l0 k l0 (l0.length : Int) 0
theorem fold_Rises.mono_l : ∀ k, (∀ y0 y1 y2, LeO (fold_Rises.l0 k y0 y1 y2) (fold_Rises.l0 (k + 1) y0 y1 y2))
  | 0 => fun _ _ _ r h => by simp [fold_Rises.l0] at h
  | k + 1 => by
    have ih0 := fold_Rises.mono_l k
    · intro y0 y1 y2
      unfold fold_Rises.l0
      repeat' first
      | (with_reducible exact ih0 _ _ _)
      | (with_reducible exact LeO.refl _)
      | (with_reducible exact LeO.none _)
      | (with_reducible refine LeO.ite ?_ ?_)
      | (with_reducible refine LeO.bind ?_ (fun _ => ?_))
      | exact ih0 _ _ _
      | exact LeO.none _
      | refine LeO.ite ?_ ?_
      | refine LeO.bind ?_ (fun _ => ?_)
theorem fold_Rises.mono : ∀ a0 k, LeO (fold_Rises.f k a0) (fold_Rises.f (k + 1) a0) := by
  (intro a0 k); (have ih0 := fold_Rises.mono_l k); (unfold fold_Rises.f)
  repeat' first
      | (with_reducible exact ih0 _ _ _)
      | (with_reducible exact LeO.refl _)
      | (with_reducible exact LeO.none _)
      | (with_reducible refine LeO.ite ?_ ?_)
      | (with_reducible refine LeO.bind ?_ (fun _ => ?_))
      | exact ih0 _ _ _
      | exact LeO.none _
      | refine LeO.ite ?_ ?_
      | refine LeO.bind ?_ (fun _ => ?_)
set_option maxHeartbeats 8000000 in
set_option maxRecDepth 100000 in
theorem fold_Rises.calls (k : Nat) (A0 : Option Addr) (c0 : Nat) (l0 : List (S85)) (r : Bool) (w : World) (hr0 : Kd.C k85 w A0 l0.length l0) (hc0 : l0.length ≤ c0) (h : fold_Rises.f k l0 = some r) :
    Calls Try.prog 82 #[.slice A0 l0.length c0] w fun e w' => e = .returned (.bool r) ∧ Drawn0 w w' := by
  (have HR0 := Aside0.mk hr0); (have HC0 := Aside0.mk hc0); (clear hr0 hc0); (have H : (fold_Rises.l0 k l0 (l0.length : Int) 0) = some r := h); (clear h); (have H' := Aside0.mk H); (clear H); (go_enter Try.func82, Try.ntmps82); (go_wp2); (repeat (go_quiet (fail); try go_wp2)); (go_loopg [6] k (fun kq v6 w' => ∃ (x6_1 : Int), v6 = .int .i64 x6_1 ∧ Aside0 (fold_Rises.l0 kq l0 (l0.length : Int) x6_1 = some r) ∧ Aside0 (kq ≤ k) ∧ Drawn0 w w'))
  case atStart => exact ⟨(0), (by first | rfl | (simp; done) | (simp [*]; done)), H', ⟨Nat.le_refl _⟩, by repeat (first | exact Drawn0.refl _ | apply Drawn0.step)⟩
  case round =>
    (clear H'); (obtain ⟨x6_1, rfl, HA, HK1, ⟨m1, rfl⟩⟩ := hrel)
    cases gk with
    | zero => exact absurd HA.out (by simp [fold_Rises.l0])
    | succ k1 =>
      (have H := HA.out); (clear HA); (simp only [fold_Rises.l0] at H); (by_cases c2 : x6_1 < (l0.length : Int))
      · rw [if_pos c2] at H
        (have c2b0 : decide (x6_1 < (l0.length : Int)) = true := decide_eq_true c2); (clear c2); (by_cases c3 : x6_1 > 0)
        · rw [if_pos c3] at H
          (have c3b0 : decide (0 < x6_1) = true := decide_eq_true c3); (clear c3); (obtain ⟨ji4, hji4⟩ : ∃ j_ : Int, (wrap64 (x6_1 - 1)) = j_ := ⟨_, rfl⟩); (replace H : (if 0 ≤ (ji4) then (if (ji4) < (l0.length : Int) then (if 0 ≤ x6_1 then (if x6_1 < (l0.length : Int) then (if ((Op.bytesLess (((rd_T85 l0 (ji4)).f0).toList) (((rd_T85 l0 x6_1).f0).toList)) = true) then (fold_Rises.l0 k1 l0 (l0.length : Int) (wrap64 (x6_1 + 1))) else (some false)) else (none)) else (none)) else (none)) else (none)) = some r := by first | (rw [hji4] at H; exact H) | (simp only [hji4] at H ⊢; exact H)); (have hji4w : (IntKind.i64.wrap (x6_1 - 1)) = ji4 := (i64_w _).trans hji4); (by_cases c5 : 0 ≤ (ji4))
          · rw [if_pos c5] at H
            (have c5b0 : decide (0 ≤ (ji4)) = true := decide_eq_true c5); (clear c5); (by_cases c6 : (ji4) < (l0.length : Int))
            · rw [if_pos c6] at H
              (have c6b0 : decide ((ji4) < (l0.length : Int)) = true := decide_eq_true c6); (clear c6); (by_cases c7 : 0 ≤ x6_1)
              · rw [if_pos c7] at H
                (have c7b0 : decide (0 ≤ x6_1) = true := decide_eq_true c7); (clear c7); (by_cases c8 : x6_1 < (l0.length : Int))
                · rw [if_pos c8] at H
                  (have c8b0 : decide (x6_1 < (l0.length : Int)) = true := decide_eq_true c8); (clear c8); (by_cases c9 : ((Op.bytesLess (((rd_T85 l0 (ji4)).f0).toList) (((rd_T85 l0 x6_1).f0).toList)) = true))
                  · rw [if_pos c9] at H
                    (have c9b0 : (Op.bytesLess (((rd_T85 l0 (ji4)).f0).toList) (((rd_T85 l0 x6_1).f0).toList)) = true := c9); (clear c9); (have H' := Aside0.mk H); (clear H); (have p245 : 0 ≤ ((ji4) : Int) := of_decide_eq_true (by first | (with_reducible assumption) | assumption)); (have q245 : (ji4) < (l0.length : Int) := of_decide_eq_true (by first | (with_reducible assumption) | assumption)); (obtain ⟨ad245, e245, hx245_0, hx245_1⟩ := at_T85 HR0.out (ji4) p245 q245); (cases e245); (replace p245 := eq_true p245); (replace q245 := eq_true q245); (have p246 : 0 ≤ (x6_1 : Int) := of_decide_eq_true (by first | (with_reducible assumption) | assumption)); (have q246 : x6_1 < (l0.length : Int) := of_decide_eq_true (by first | (with_reducible assumption) | assumption)); (obtain ⟨ad246, e246, hx246_0, hx246_1⟩ := at_T85 HR0.out x6_1 p246 q246); (obtain rfl : ad245 = ad246 := (by injection e246)); (replace p246 := eq_true p246); (replace q246 := eq_true q246); (go_wp2); (repeat (go_quiet (fail); try go_wp2)); (go_roundg k1)
                    case measure => have := HK1.out; omega
                    case rel => exact ⟨(wrap64 (x6_1 + 1)), (by first | rfl | (simp; done) | (simp [*]; done)), H', ⟨by have := HK1.out; omega⟩, by repeat (first | exact Drawn0.refl _ | apply Drawn0.step)⟩
                  · rw [if_neg c9] at H
                    (have c9b0 : (Op.bytesLess (((rd_T85 l0 (ji4)).f0).toList) (((rd_T85 l0 x6_1).f0).toList)) = false := by simpa using c9); (clear c9); (obtain rfl := Option.some.inj H); (have p245 : 0 ≤ ((ji4) : Int) := of_decide_eq_true (by first | (with_reducible assumption) | assumption)); (have q245 : (ji4) < (l0.length : Int) := of_decide_eq_true (by first | (with_reducible assumption) | assumption)); (obtain ⟨ad245, e245, hx245_0, hx245_1⟩ := at_T85 HR0.out (ji4) p245 q245); (cases e245); (replace p245 := eq_true p245); (replace q245 := eq_true q245); (have p246 : 0 ≤ (x6_1 : Int) := of_decide_eq_true (by first | (with_reducible assumption) | assumption)); (have q246 : x6_1 < (l0.length : Int) := of_decide_eq_true (by first | (with_reducible assumption) | assumption)); (obtain ⟨ad246, e246, hx246_0, hx246_1⟩ := at_T85 HR0.out x6_1 p246 q246); (obtain rfl : ad245 = ad246 := (by injection e246)); (replace p246 := eq_true p246); (replace q246 := eq_true q246); (go_wp2); (repeat (go_quiet (fail); try go_wp2)); (go_ret); (exact ⟨by first | rfl | (simp; done) | (simp only [← hji4] <;> (first | rfl | simp)) | (simp [*]; done), by repeat (first | exact Drawn0.refl _ | apply Drawn0.step)⟩)
                · rw [if_neg c8] at H
                  exact absurd H (by simp)
              · rw [if_neg c7] at H
                exact absurd H (by simp)
            · rw [if_neg c6] at H
              exact absurd H (by simp)
          · rw [if_neg c5] at H
            exact absurd H (by simp)
        · rw [if_neg c3] at H
          (have c3b0 : decide (0 < x6_1) = false := decide_eq_false c3); (clear c3); (have H' := Aside0.mk H); (clear H); (go_wp2); (repeat (go_quiet (fail); try go_wp2)); (go_roundg k1)
          case measure => have := HK1.out; omega
          case rel => exact ⟨(wrap64 (x6_1 + 1)), (by first | rfl | (simp; done) | (simp [*]; done)), H', ⟨by have := HK1.out; omega⟩, by repeat (first | exact Drawn0.refl _ | apply Drawn0.step)⟩
      · rw [if_neg c2] at H
        (have c2b0 : decide (x6_1 < (l0.length : Int)) = false := decide_eq_false c2); (clear c2); (obtain rfl := Option.some.inj H); (go_wp2); (repeat (go_quiet (fail); try go_wp2)); (go_ret); (exact ⟨by first | rfl | (simp; done) | (simp [*]; done), by repeat (first | exact Drawn0.refl _ | apply Drawn0.step)⟩)

end Go.Proofs.Ytpfikmchimlneaa.M3
