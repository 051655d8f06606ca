-- written by a program of this session (wip/myprint.py), over the kit's printer and the session's own contracts
import Derived.Test.YtpfikmchimlneaaM3x0
import Derived.Test.YtpfikmchimlneaaM3P0
namespace Go.Proofs.Ytpfikmchimlneaa.M3
open Go.RowKit Go.Proofs.YtpfikmchimlneaaW.PrintWords Go.Proofs.YtpfikmchimlneaaW.PrintLast Go.Proofs.YtpfikmchimlneaaW.PrintMore Go.Proofs.YtpfikmchimlneaaW.Mine
attribute [local go_sem] max2_int min2_int max_two min_two max_three min_three max_four min_four max2_str min2_str binOp_gtr_str binOp_leq_str binOp_geq_str   -- for this text's walks alone
set_option linter.unusedVariables false
set_option linter.unusedSimpArgs false

/-! ### api_Entry_string_109: function 109 -/
def api_Entry_string_109.l0 : Nat → List (List (S85)) → ByteArray → Int → Int → Int → Option (Int × Bool)
  | 0, _, _, _, _, _ => none
  | k + 1, x0, x1, x8, x9, x10 => if x9 < x10 then (if 0 ≤ (wrap64 ((IntKind.u64.wrap (wrap64 (x9 + x10))) / 2)) then (if (wrap64 ((IntKind.u64.wrap (wrap64 (x9 + x10))) / 2)) < (x0.length : Int) then ((leaf_of_1.f (rd_L2 x0 (wrap64 ((IntKind.u64.wrap (wrap64 (x9 + x10))) / 2))) x1).bind fun t207 => (if t207 < 0 then (api_Entry_string_109.l0 k x0 x1 x8 (wrap64 ((wrap64 ((IntKind.u64.wrap (wrap64 (x9 + x10))) / 2)) + 1)) x10) else (api_Entry_string_109.l0 k x0 x1 x8 x9 (wrap64 ((IntKind.u64.wrap (wrap64 (x9 + x10))) / 2))))) else (none)) else (none)) else (if x9 < x8 then (if 0 ≤ x9 then (if x9 < (x0.length : Int) then ((leaf_of_1.f (rd_L2 x0 x9) x1).bind fun t209 => (some (x9, (t209 == 0)))) else (none)) else (none)) else (some (x9, false)))
def api_Entry_string_109.f (k : Nat) (l0 : List (List (S85))) (a1 : ByteArray)  : Option (Int × Bool) := api_Entry_string_109.l0 k l0 a1 (l0.length : Int) 0 (l0.length : Int)
theorem api_Entry_string_109.mono_l : ∀ k, (∀ y0 y1 y2 y3 y4, LeO (api_Entry_string_109.l0 k y0 y1 y2 y3 y4) (api_Entry_string_109.l0 (k + 1) y0 y1 y2 y3 y4))
  | 0 => fun _ _ _ _ _ r h => by simp [api_Entry_string_109.l0] at h
  | k + 1 => by
    have ih0 := api_Entry_string_109.mono_l k
    · intro y0 y1 y2 y3 y4
      unfold api_Entry_string_109.l0
      repeat' first
      | (with_reducible exact ih0 _ _ _ _ _)
      | (with_reducible exact LeO.refl _)
      | (with_reducible exact LeO.none _)
      | (with_reducible refine LeO.ite ?_ ?_)
      | (with_reducible refine LeO.bind ?_ (fun _ => ?_))
      | exact ih0 _ _ _ _ _
      | exact LeO.none _
      | refine LeO.ite ?_ ?_
      | refine LeO.bind ?_ (fun _ => ?_)
theorem api_Entry_string_109.mono : ∀ a0 a1 k, LeO (api_Entry_string_109.f k a0 a1) (api_Entry_string_109.f (k + 1) a0 a1) := by
  (intro a0 a1 k); (have ih0 := api_Entry_string_109.mono_l k); (unfold api_Entry_string_109.f)
  repeat' first
      | (with_reducible exact ih0 _ _ _ _ _)
      | (with_reducible exact LeO.refl _)
      | (with_reducible exact LeO.none _)
      | (with_reducible refine LeO.ite ?_ ?_)
      | (with_reducible refine LeO.bind ?_ (fun _ => ?_))
      | exact ih0 _ _ _ _ _
      | exact LeO.none _
      | refine LeO.ite ?_ ?_
      | refine LeO.bind ?_ (fun _ => ?_)
set_option maxHeartbeats 8000000 in
set_option maxRecDepth 100000 in
theorem api_Entry_string_109.calls (k : Nat) (A0 : Option Addr) (c0 : Nat) (l0 : List (List (S85))) (a1 : ByteArray)  (r1 : Int) (r2 : Bool) (w : World) (hr0 : Kd.C (Kd.slice 85 k85) w A0 l0.length l0) (hc0 : l0.length ≤ c0) (h : api_Entry_string_109.f k l0 a1 = some (r1, r2)) :
    Calls Try.prog 109 #[.slice A0 l0.length c0, .string a1, .func (.func 110) #[] #[]] w fun e w' => e = .returned (.tuple #[.int .i64 r1, .bool r2]) ∧ Drawn0 w w' := by
  (have HR0 := Aside0.mk hr0); (have HC0 := Aside0.mk hc0); (clear hr0 hc0); (have H : (api_Entry_string_109.l0 k l0 a1 (l0.length : Int) 0 (l0.length : Int)) = some (r1, r2) := h); (clear h); (have H' := Aside0.mk H); (clear H); (go_enter Try.func109, Try.ntmps109); (go_wp2); (go_loopg [9, 10] k (fun kq v9 v10 w' => ∃ (x9_1 : Int) (x10_1 : Int), v9 = .int .i64 x9_1 ∧ v10 = .int .i64 x10_1 ∧ Aside0 (api_Entry_string_109.l0 kq l0 a1 (l0.length : Int) x9_1 x10_1 = some (r1, r2)) ∧ Aside0 (kq ≤ k) ∧ Drawn0 w w'))
  case atStart => exact ⟨(0), ((l0.length : Int)), (by first | rfl | (simp; done) | (simp [*]; done)), (by first | rfl | (simp; done) | (simp [*]; done)), H', ⟨Nat.le_refl _⟩, by repeat (first | exact Drawn0.refl _ | apply Drawn0.step)⟩
  case round =>
    (clear H'); (try clear c1); (try clear p2); (obtain ⟨x9_1, x10_1, rfl, rfl, HA, HK1, ⟨m1, rfl⟩⟩ := hrel)
    cases gk with
    | zero => exact absurd HA.out (by simp [api_Entry_string_109.l0])
    | succ k1 =>
      (have H := HA.out); (clear HA); (simp only [api_Entry_string_109.l0] at H); (by_cases c4 : x9_1 < x10_1)
      · rw [if_pos c4] at H
        (have c4b0 : decide (x9_1 < x10_1) = true := decide_eq_true c4); (clear c4); (obtain ⟨ji5, hji5⟩ : ∃ j_ : Int, (wrap64 ((IntKind.u64.wrap (wrap64 (x9_1 + x10_1))) / 2)) = j_ := ⟨_, rfl⟩); (replace H : (if 0 ≤ (ji5) then (if (ji5) < (l0.length : Int) then ((leaf_of_1.f (rd_L2 l0 (ji5)) a1).bind fun t207 => (if t207 < 0 then (api_Entry_string_109.l0 k1 l0 a1 (l0.length : Int) (wrap64 ((ji5) + 1)) x10_1) else (api_Entry_string_109.l0 k1 l0 a1 (l0.length : Int) x9_1 ji5))) else (none)) else (none)) = some (r1, r2) := by first | (rw [hji5] at H; exact H) | (simp only [hji5] at H ⊢; exact H)); (have hji5w : (IntKind.i64.wrap ((IntKind.u64.wrap (wrap64 (x9_1 + x10_1))) / 2)) = ji5 := (i64_w _).trans hji5); (by_cases c6 : 0 ≤ (ji5))
        · rw [if_pos c6] at H
          (have c6b0 : decide (0 ≤ (ji5)) = true := decide_eq_true c6); (clear c6); (by_cases c7 : (ji5) < (l0.length : Int))
          · rw [if_pos c7] at H
            (have c7b0 : decide ((ji5) < (l0.length : Int)) = true := decide_eq_true c7); (clear c7); (replace H := Option.bind_eq_some_iff.mp H); (obtain ⟨t207, A80, H⟩ := H); (replace H : (if t207 < 0 then (api_Entry_string_109.l0 k1 l0 a1 (l0.length : Int) (wrap64 ((ji5) + 1)) x10_1) else (api_Entry_string_109.l0 k1 l0 a1 (l0.length : Int) x9_1 ji5)) = some (r1, r2) := H); (have A8 := Aside0.mk A80); (clear A80); (by_cases c9 : t207 < 0)
            · rw [if_pos c9] at H
              (have c9b0 : decide (t207 < 0) = true := decide_eq_true c9); (clear c9); (have H' := Aside0.mk H); (clear H); (have p206 : 0 ≤ ((ji5) : Int) := of_decide_eq_true (by first | (with_reducible assumption) | assumption)); (have q206 : (ji5) < (l0.length : Int) := of_decide_eq_true (by first | (with_reducible assumption) | assumption)); (obtain ⟨ad206, A206_0, c206_0, e206, hx206_0, hl206_0, hi206_0⟩ := at_L2 HR0.out (ji5) p206 q206); (cases e206); (have HR206_0 := Aside0.mk hi206_0); (have HC206_0 := Aside0.mk hl206_0); (clear hi206_0 hl206_0); (replace p206 := eq_true p206); (replace q206 := eq_true q206)
              (go_wp2_with (first | (go_at_call 110; (refine (leaf_of_1.calls _ _ (rd_L2 l0 (ji5)) a1 t207 _ ?side1 ?side2 A8.out).mono ?_); (case side1 => repeat (first | exact HR206_0.out | (with_reducible refine Kd.C_alloc ?_ _) | (with_reducible refine Kd.C_drewN ?_ _) | (with_reducible refine Kd.C_drew ?_))); (case side2 => exact HC206_0.out); rintro e w' ⟨rfl, ⟨nd, rfl⟩⟩))); (go_roundg k1)
              case measure => have := HK1.out; omega
              case rel => exact ⟨(wrap64 ((ji5) + 1)), (x10_1), (by first | rfl | (simp; done) | (simp only [← hji5] <;> (first | rfl | simp)) | (simp [*]; done)), (by first | rfl | (simp; done) | (simp [*]; done)), H', ⟨by have := HK1.out; omega⟩, by repeat (first | exact Drawn0.refl _ | apply Drawn0.step)⟩
            · rw [if_neg c9] at H
              (have c9b0 : decide (t207 < 0) = false := decide_eq_false c9); (clear c9); (have H' := Aside0.mk H); (clear H); (have p206 : 0 ≤ ((ji5) : Int) := of_decide_eq_true (by first | (with_reducible assumption) | assumption)); (have q206 : (ji5) < (l0.length : Int) := of_decide_eq_true (by first | (with_reducible assumption) | assumption)); (obtain ⟨ad206, A206_0, c206_0, e206, hx206_0, hl206_0, hi206_0⟩ := at_L2 HR0.out (ji5) p206 q206); (cases e206); (have HR206_0 := Aside0.mk hi206_0); (have HC206_0 := Aside0.mk hl206_0); (clear hi206_0 hl206_0); (replace p206 := eq_true p206); (replace q206 := eq_true q206)
              (go_wp2_with (first | (go_at_call 110; (refine (leaf_of_1.calls _ _ (rd_L2 l0 (ji5)) a1 t207 _ ?side1 ?side2 A8.out).mono ?_); (case side1 => repeat (first | exact HR206_0.out | (with_reducible refine Kd.C_alloc ?_ _) | (with_reducible refine Kd.C_drewN ?_ _) | (with_reducible refine Kd.C_drew ?_))); (case side2 => exact HC206_0.out); rintro e w' ⟨rfl, ⟨nd, rfl⟩⟩))); (go_roundg k1)
              case measure => have := HK1.out; omega
              case rel => exact ⟨(x9_1), (ji5), (by first | rfl | (simp; done) | (simp [*]; done)), (by first | rfl | (simp; done) | (simp only [← hji5] <;> (first | rfl | simp)) | (simp [*]; done)), H', ⟨by have := HK1.out; omega⟩, by repeat (first | exact Drawn0.refl _ | apply Drawn0.step)⟩
          · rw [if_neg c7] at H
            exact absurd H (by simp)
        · rw [if_neg c6] at H
          exact absurd H (by simp)
      · rw [if_neg c4] at H
        (have c4b0 : decide (x9_1 < x10_1) = false := decide_eq_false c4); (clear c4); (by_cases c10 : x9_1 < (l0.length : Int))
        · rw [if_pos c10] at H
          (have c10b0 : decide (x9_1 < (l0.length : Int)) = true := decide_eq_true c10); (clear c10); (by_cases c11 : 0 ≤ x9_1)
          · rw [if_pos c11] at H
            (have c11b0 : decide (0 ≤ x9_1) = true := decide_eq_true c11); (clear c11); (by_cases c12 : x9_1 < (l0.length : Int))
            · rw [if_pos c12] at H
              (have c12b0 : decide (x9_1 < (l0.length : Int)) = true := decide_eq_true c12); (clear c12); (replace H := Option.bind_eq_some_iff.mp H); (obtain ⟨t209, A130, H⟩ := H); (replace H : (some (x9_1, (t209 == 0))) = some (r1, r2) := H); (have A13 := Aside0.mk A130); (clear A130); (simp only [Option.some.injEq, Prod.mk.injEq] at H); (obtain ⟨rfl, rfl⟩ := H); (have p208 : 0 ≤ (x9_1 : Int) := of_decide_eq_true (by first | (with_reducible assumption) | assumption)); (have q208 : x9_1 < (l0.length : Int) := of_decide_eq_true (by first | (with_reducible assumption) | assumption)); (obtain ⟨ad208, A208_0, c208_0, e208, hx208_0, hl208_0, hi208_0⟩ := at_L2 HR0.out x9_1 p208 q208); (cases e208); (have HR208_0 := Aside0.mk hi208_0); (have HC208_0 := Aside0.mk hl208_0); (clear hi208_0 hl208_0); (replace p208 := eq_true p208); (replace q208 := eq_true q208)
              (go_wp2_with (first | (go_at_call 110; (with_reducible refine (leaf_of_1.calls _ _ (rd_L2 l0 x9_1) a1 t209 _ ?side1 ?side2 A13.out).mono ?_); (case side1 => repeat (first | exact HR208_0.out | (with_reducible refine Kd.C_alloc ?_ _) | (with_reducible refine Kd.C_drewN ?_ _) | (with_reducible refine Kd.C_drew ?_))); (case side2 => exact HC208_0.out); rintro e w' ⟨rfl, ⟨nd, rfl⟩⟩))); (go_ret2); (exact ⟨by first | rfl | (simp; done) | (simp [*]; done), by repeat (first | exact Drawn0.refl _ | apply Drawn0.step)⟩)
            · rw [if_neg c12] at H
              exact absurd H (by simp)
          · rw [if_neg c11] at H
            exact absurd H (by simp)
        · rw [if_neg c10] at H
          (have c10b0 : decide (x9_1 < (l0.length : Int)) = false := decide_eq_false c10); (clear c10); (simp only [Option.some.injEq, Prod.mk.injEq] at H); (obtain ⟨rfl, rfl⟩ := H); (go_wp2); (go_ret2); (exact ⟨by first | rfl | (simp; done) | (simp [*]; done), by repeat (first | exact Drawn0.refl _ | apply Drawn0.step)⟩)

end Go.Proofs.Ytpfikmchimlneaa.M3
