-- written by a program of this session (wip/myprint.py), over the kit's printer and the session's own contracts
import Derived.Test.YtnklnjghecmihaaH4x0
namespace Go.Proofs.Ytnklnjghecmihaa.H4
open Go.RowKit Go.Proofs.YtnklnjghecmihaaW.PrintWords Go.Proofs.YtnklnjghecmihaaW.PrintLast Go.Proofs.YtnklnjghecmihaaW.PrintMore Go.Proofs.YtnklnjghecmihaaW.Mine
attribute [local go_sem] max2_int min2_int max_two min_two max_three min_three max_four min_four max2_str min2_str binOp_gtr_str binOp_leq_str binOp_geq_str   -- for this text's walks alone
set_option linter.unusedVariables false
set_option linter.unusedSimpArgs false

/-! ### catchmentref10_Place: function 63 -/
def catchmentref10_Place.l0 : Nat → List (S25) → ByteArray → Int → Bool → Int → Option (Int × Bool)
  | 0, _, _, _, _, _ => none
  | k + 1, x0, x1, x6, x7, x8 => if x8 < (x0.length : Int) then (if 0 ≤ x8 then (if (Op.bytesLess (((rd_T25 x0 x8).f0).toList) x1.toList) = true then (if x7 = true then (catchmentref10_Place.l0 k x0 x1 (wrap64 (x6 + 1)) true (wrap64 (x8 + 1))) else (catchmentref10_Place.l0 k x0 x1 (wrap64 (x6 + 1)) (((rd_T25 x0 x8).f0).toList == x1.toList) (wrap64 (x8 + 1)))) else (if x7 = true then (catchmentref10_Place.l0 k x0 x1 x6 true (wrap64 (x8 + 1))) else (catchmentref10_Place.l0 k x0 x1 x6 (((rd_T25 x0 x8).f0).toList == x1.toList) (wrap64 (x8 + 1))))) else (none)) else (some (x6, x7))
def catchmentref10_Place.f (k : Nat) (l0 : List (S25)) (a1 : ByteArray) : Option (Int × Bool) := catchmentref10_Place.l0 k l0 a1 0 false 0
theorem catchmentref10_Place.mono_l : ∀ k, (∀ y0 y1 y2 y3 y4, LeO (catchmentref10_Place.l0 k y0 y1 y2 y3 y4) (catchmentref10_Place.l0 (k + 1) y0 y1 y2 y3 y4))
  | 0 => fun _ _ _ _ _ r h => by simp [catchmentref10_Place.l0] at h
  | k + 1 => by
    have ih0 := catchmentref10_Place.mono_l k
    · intro y0 y1 y2 y3 y4
      unfold catchmentref10_Place.l0
      repeat' first
      | (with_reducible exact ih0 _ _ _ _ _)
      | (with_reducible exact LeO.refl _)
      | (with_reducible exact LeO.none _)
      | (with_reducible refine LeO.ite ?_ ?_)
      | (with_reducible refine LeO.bind ?_ (fun _ => ?_))
      | exact ih0 _ _ _ _ _
      | exact LeO.none _
      | refine LeO.ite ?_ ?_
      | refine LeO.bind ?_ (fun _ => ?_)
theorem catchmentref10_Place.mono : ∀ a0 a1 k, LeO (catchmentref10_Place.f k a0 a1) (catchmentref10_Place.f (k + 1) a0 a1) := by
  (intro a0 a1 k); (have ih0 := catchmentref10_Place.mono_l k); (unfold catchmentref10_Place.f)
  repeat' first
      | (with_reducible exact ih0 _ _ _ _ _)
      | (with_reducible exact LeO.refl _)
      | (with_reducible exact LeO.none _)
      | (with_reducible refine LeO.ite ?_ ?_)
      | (with_reducible refine LeO.bind ?_ (fun _ => ?_))
      | exact ih0 _ _ _ _ _
      | exact LeO.none _
      | refine LeO.ite ?_ ?_
      | refine LeO.bind ?_ (fun _ => ?_)
set_option maxHeartbeats 8000000 in
set_option maxRecDepth 100000 in
theorem catchmentref10_Place.calls (k : Nat) (A0 : Option Addr) (c0 : Nat) (l0 : List (S25)) (a1 : ByteArray) (r1 : Int) (r2 : Bool) (w : World) (hr0 : Kd.C k25 w A0 l0.length l0) (hc0 : l0.length ≤ c0) (h : catchmentref10_Place.f k l0 a1 = some (r1, r2)) :
    Calls Try.prog 63 #[.slice A0 l0.length c0, .string a1] w fun e w' => e = .returned (.tuple #[.int .i64 r1, .bool r2]) ∧ Drawn0 w w' := by
  (have HR0 := Aside0.mk hr0); (have HC0 := Aside0.mk hc0); (clear hr0 hc0); (have H : (catchmentref10_Place.l0 k l0 a1 0 false 0) = some (r1, r2) := h); (clear h); (have H' := Aside0.mk H); (clear H); (go_enter Try.func63, Try.ntmps63); (go_wp2); (go_loopg [6, 7, 8] k (fun kq v6 v7 v8 w' => ∃ (x6_1 : Int) (x7_1 : Bool) (x8_1 : Int), v6 = .int .i64 x6_1 ∧ v7 = .bool x7_1 ∧ v8 = .int .i64 x8_1 ∧ Aside0 (catchmentref10_Place.l0 kq l0 a1 x6_1 x7_1 x8_1 = some (r1, r2)) ∧ Aside0 (kq ≤ k) ∧ Drawn0 w w'))
  case atStart => exact ⟨(0), (false), (0), (by first | rfl | (simp; done) | (simp [*]; done)), (by first | rfl | (simp; done) | (simp [*]; done)), (by first | rfl | (simp; done) | (simp [*]; done)), H', ⟨Nat.le_refl _⟩, by repeat (first | exact Drawn0.refl _ | apply Drawn0.step)⟩
  case round =>
    (clear H'); (try clear p2); (obtain ⟨x6_1, x7_1, x8_1, rfl, rfl, rfl, HA, HK1, ⟨m1, rfl⟩⟩ := hrel)
    cases gk with
    | zero => exact absurd HA.out (by simp [catchmentref10_Place.l0])
    | succ k1 =>
      (have H := HA.out); (clear HA); (simp only [catchmentref10_Place.l0] at H); (by_cases c3 : x8_1 < (l0.length : Int))
      · rw [if_pos c3] at H
        (have c3b0 : decide (x8_1 < (l0.length : Int)) = true := decide_eq_true c3); (clear c3); (by_cases c4 : 0 ≤ x8_1)
        · rw [if_pos c4] at H
          (have c4b0 : decide (0 ≤ x8_1) = true := decide_eq_true c4); (clear c4); (by_cases c5 : (Op.bytesLess (((rd_T25 l0 x8_1).f0).toList) a1.toList) = true)
          · rw [if_pos c5] at H
            (have c5b0 : (Op.bytesLess (((rd_T25 l0 x8_1).f0).toList) a1.toList) = true := c5); (clear c5); (by_cases c6 : x7_1 = true)
            · subst c6
              (have H1 : (catchmentref10_Place.l0 k1 l0 a1 (wrap64 (x6_1 + 1)) true (wrap64 (x8_1 + 1))) = some (r1, r2) := by rw [if_pos rfl] at H; exact H); (clear H); (have H := H1); (clear H1); (have H' := Aside0.mk H); (clear H); (have p157 : 0 ≤ (x8_1 : Int) := of_decide_eq_true (by first | (with_reducible assumption) | assumption)); (have q157 : x8_1 < (l0.length : Int) := of_decide_eq_true (by first | (with_reducible assumption) | assumption)); (obtain ⟨ad157, e157, hx157_0, hx157_1⟩ := at_T25 HR0.out x8_1 p157 q157); (cases e157); (replace p157 := eq_true p157); (replace q157 := eq_true q157); (go_wp2); (go_roundg k1)
              case measure => have := HK1.out; omega
              case rel => exact ⟨(wrap64 (x6_1 + 1)), (true), (wrap64 (x8_1 + 1)), (by first | rfl | (simp; done) | (simp [*]; done)), (by first | rfl | (simp; done) | (simp [*]; done)), (by first | rfl | (simp; done) | (simp [*]; done)), H', ⟨by have := HK1.out; omega⟩, by repeat (first | exact Drawn0.refl _ | apply Drawn0.step)⟩
            · replace c6 := Bool.eq_false_iff.mpr c6
              (subst c6); (have H1 : (catchmentref10_Place.l0 k1 l0 a1 (wrap64 (x6_1 + 1)) (((rd_T25 l0 x8_1).f0).toList == a1.toList) (wrap64 (x8_1 + 1))) = some (r1, r2) := by rw [if_neg (show ¬ (false = true) by decide)] at H; exact H); (clear H); (have H := H1); (clear H1); (have H' := Aside0.mk H); (clear H); (have p157 : 0 ≤ (x8_1 : Int) := of_decide_eq_true (by first | (with_reducible assumption) | assumption)); (have q157 : x8_1 < (l0.length : Int) := of_decide_eq_true (by first | (with_reducible assumption) | assumption)); (obtain ⟨ad157, e157, hx157_0, hx157_1⟩ := at_T25 HR0.out x8_1 p157 q157); (cases e157); (replace p157 := eq_true p157); (replace q157 := eq_true q157); (have p158 : 0 ≤ (x8_1 : Int) := of_decide_eq_true (by first | (with_reducible assumption) | assumption)); (have q158 : x8_1 < (l0.length : Int) := of_decide_eq_true (by first | (with_reducible assumption) | assumption)); (obtain ⟨ad158, e158, hx158_0, hx158_1⟩ := at_T25 HR0.out x8_1 p158 q158); (obtain rfl : ad157 = ad158 := (by injection e158)); (replace p158 := eq_true p158); (replace q158 := eq_true q158); (go_wp2); (go_roundg k1)
              case measure => have := HK1.out; omega
              case rel => exact ⟨(wrap64 (x6_1 + 1)), ((((rd_T25 l0 x8_1).f0).toList == a1.toList)), (wrap64 (x8_1 + 1)), (by first | rfl | (simp; done) | (simp [*]; done)), (by first | rfl | (simp; done) | (simp [*]; done)), (by first | rfl | (simp; done) | (simp [*]; done)), H', ⟨by have := HK1.out; omega⟩, by repeat (first | exact Drawn0.refl _ | apply Drawn0.step)⟩
          · rw [if_neg c5] at H
            (have c5b0 : (Op.bytesLess (((rd_T25 l0 x8_1).f0).toList) a1.toList) = false := by simpa using c5); (clear c5); (by_cases c7 : x7_1 = true)
            · subst c7
              (have H1 : (catchmentref10_Place.l0 k1 l0 a1 x6_1 true (wrap64 (x8_1 + 1))) = some (r1, r2) := by rw [if_pos rfl] at H; exact H); (clear H); (have H := H1); (clear H1); (have H' := Aside0.mk H); (clear H); (have p157 : 0 ≤ (x8_1 : Int) := of_decide_eq_true (by first | (with_reducible assumption) | assumption)); (have q157 : x8_1 < (l0.length : Int) := of_decide_eq_true (by first | (with_reducible assumption) | assumption)); (obtain ⟨ad157, e157, hx157_0, hx157_1⟩ := at_T25 HR0.out x8_1 p157 q157); (cases e157); (replace p157 := eq_true p157); (replace q157 := eq_true q157); (go_wp2); (go_roundg k1)
              case measure => have := HK1.out; omega
              case rel => exact ⟨(x6_1), (true), (wrap64 (x8_1 + 1)), (by first | rfl | (simp; done) | (simp [*]; done)), (by first | rfl | (simp; done) | (simp [*]; done)), (by first | rfl | (simp; done) | (simp [*]; done)), H', ⟨by have := HK1.out; omega⟩, by repeat (first | exact Drawn0.refl _ | apply Drawn0.step)⟩
            · replace c7 := Bool.eq_false_iff.mpr c7
              (subst c7); (have H1 : (catchmentref10_Place.l0 k1 l0 a1 x6_1 (((rd_T25 l0 x8_1).f0).toList == a1.toList) (wrap64 (x8_1 + 1))) = some (r1, r2) := by rw [if_neg (show ¬ (false = true) by decide)] at H; exact H); (clear H); (have H := H1); (clear H1); (have H' := Aside0.mk H); (clear H); (have p157 : 0 ≤ (x8_1 : Int) := of_decide_eq_true (by first | (with_reducible assumption) | assumption)); (have q157 : x8_1 < (l0.length : Int) := of_decide_eq_true (by first | (with_reducible assumption) | assumption)); (obtain ⟨ad157, e157, hx157_0, hx157_1⟩ := at_T25 HR0.out x8_1 p157 q157); (cases e157); (replace p157 := eq_true p157); (replace q157 := eq_true q157); (have p159 : 0 ≤ (x8_1 : Int) := of_decide_eq_true (by first | (with_reducible assumption) | assumption)); (have q159 : x8_1 < (l0.length : Int) := of_decide_eq_true (by first | (with_reducible assumption) | assumption)); (obtain ⟨ad159, e159, hx159_0, hx159_1⟩ := at_T25 HR0.out x8_1 p159 q159); (obtain rfl : ad157 = ad159 := (by injection e159)); (replace p159 := eq_true p159); (replace q159 := eq_true q159); (go_wp2); (go_roundg k1)
              case measure => have := HK1.out; omega
              case rel => exact ⟨(x6_1), ((((rd_T25 l0 x8_1).f0).toList == a1.toList)), (wrap64 (x8_1 + 1)), (by first | rfl | (simp; done) | (simp [*]; done)), (by first | rfl | (simp; done) | (simp [*]; done)), (by first | rfl | (simp; done) | (simp [*]; done)), H', ⟨by have := HK1.out; omega⟩, by repeat (first | exact Drawn0.refl _ | apply Drawn0.step)⟩
        · rw [if_neg c4] at H
          exact absurd H (by simp)
      · rw [if_neg c3] at H
        (have c3b0 : decide (x8_1 < (l0.length : Int)) = false := decide_eq_false c3); (clear c3); (simp only [Option.some.injEq, Prod.mk.injEq] at H); (obtain ⟨rfl, rfl⟩ := H); (go_wp2); (go_ret2); (exact ⟨by first | rfl | (simp; done) | (simp [*]; done), by repeat (first | exact Drawn0.refl _ | apply Drawn0.step)⟩)

end Go.Proofs.Ytnklnjghecmihaa.H4
