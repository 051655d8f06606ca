-- written by a program of this session (wip/myprint.py), over the kit's printer and the session's own contracts
import Derived.Test.YtnklnjghecmihaaH6x0
namespace Go.Proofs.Ytnklnjghecmihaa.H6
open Go.RowKit Go.Proofs.YtnklnjghecmihaaW.PrintWords Go.Proofs.YtnklnjghecmihaaW.PrintLast Go.Proofs.YtnklnjghecmihaaW.PrintMore Go.Proofs.YtnklnjghecmihaaW.Mine
attribute [local go_sem] max2_int min2_int max_two min_two max_three min_three max_four min_four max2_str min2_str binOp_gtr_str binOp_leq_str binOp_geq_str   -- for this text's walks alone
set_option linter.unusedVariables false
set_option linter.unusedSimpArgs false

/-! ### word_TakeNum: function 124 -/
mutual
def word_TakeNum.l0 : Nat → ByteArray → Int → Int → Option (Int × ByteArray × Int)
  | 0, _, _, _ => none
  | k + 1, x0, x5, x7 => if x7 < 5 then (if x7 ≥ (x0.size : Int) then (some (0, (⟨#[]⟩ : ByteArray), 5)) else (if 0 ≤ x7 then (if x7 < (x0.size : Int) then (if 0 ≤ (wrap64 (7 * x7)) then (if (bt x0 x7) < 128 then (if (Go.bits .or .i64 x5 (shl .i64 (wrap64 (Go.bits .and .u8 (bt x0 x7) 127)) (wrap64 (7 * x7)))) > 2147483647 then (word_TakeNum.j1 k x0 (Go.bits .or .i64 x5 (shl .i64 (wrap64 (Go.bits .and .u8 (bt x0 x7) 127)) (wrap64 (7 * x7)))) x7 true) else (if x7 > 0 then (word_TakeNum.j1 k x0 (Go.bits .or .i64 x5 (shl .i64 (wrap64 (Go.bits .and .u8 (bt x0 x7) 127)) (wrap64 (7 * x7)))) x7 ((bt x0 x7) == 0)) else (word_TakeNum.j1 k x0 (Go.bits .or .i64 x5 (shl .i64 (wrap64 (Go.bits .and .u8 (bt x0 x7) 127)) (wrap64 (7 * x7)))) x7 false))) else (word_TakeNum.l0 k x0 (Go.bits .or .i64 x5 (shl .i64 (wrap64 (Go.bits .and .u8 (bt x0 x7) 127)) (wrap64 (7 * x7)))) (wrap64 (x7 + 1)))) else (none)) else (none)) else (none))) else (some (0, (⟨#[]⟩ : ByteArray), 3))
def word_TakeNum.j1 : Nat → ByteArray → Int → Int → Bool → Option (Int × ByteArray × Int)
  | 0, _, _, _, _ => none
  | k + 1, x0, x5, x6, x39 => if x39 = true then (some (0, (⟨#[]⟩ : ByteArray), 3)) else (if 0 ≤ (wrap64 (x6 + 1)) then (if (wrap64 (x6 + 1)) ≤ (x0.size : Int) then (some (x5, x0.extract ((wrap64 (x6 + 1)) : Int).toNat x0.size, 0)) else (none)) else (none))
end
def word_TakeNum.f (k : Nat) (a0 : ByteArray) : Option (Int × ByteArray × Int) := word_TakeNum.l0 k a0 0 0
theorem word_TakeNum.mono_l : ∀ k, (∀ y0 y1 y2, LeO (word_TakeNum.l0 k y0 y1 y2) (word_TakeNum.l0 (k + 1) y0 y1 y2)) ∧ (∀ y0 y1 y2 y3, LeO (word_TakeNum.j1 k y0 y1 y2 y3) (word_TakeNum.j1 (k + 1) y0 y1 y2 y3))
  | 0 => ⟨fun _ _ _ r h => by simp [word_TakeNum.l0] at h, fun _ _ _ _ r h => by simp [word_TakeNum.j1] at h⟩
  | k + 1 => by
    obtain ⟨ih0, ih1⟩ := word_TakeNum.mono_l k
    refine ⟨?_, ?_⟩
    · intro y0 y1 y2
      unfold word_TakeNum.l0
      repeat' first
      | (with_reducible exact ih0 _ _ _)
      | (with_reducible exact ih1 _ _ _ _)
      | (with_reducible exact LeO.refl _)
      | (with_reducible exact LeO.none _)
      | (with_reducible refine LeO.ite ?_ ?_)
      | (with_reducible refine LeO.bind ?_ (fun _ => ?_))
      | exact ih0 _ _ _
      | exact ih1 _ _ _ _
      | exact LeO.none _
      | refine LeO.ite ?_ ?_
      | refine LeO.bind ?_ (fun _ => ?_)
    · intro y0 y1 y2 y3
      unfold word_TakeNum.j1
      repeat' first
      | (with_reducible exact ih0 _ _ _)
      | (with_reducible exact ih1 _ _ _ _)
      | (with_reducible exact LeO.refl _)
      | (with_reducible exact LeO.none _)
      | (with_reducible refine LeO.ite ?_ ?_)
      | (with_reducible refine LeO.bind ?_ (fun _ => ?_))
      | exact ih0 _ _ _
      | exact ih1 _ _ _ _
      | exact LeO.none _
      | refine LeO.ite ?_ ?_
      | refine LeO.bind ?_ (fun _ => ?_)
theorem word_TakeNum.mono : ∀ a0 k, LeO (word_TakeNum.f k a0) (word_TakeNum.f (k + 1) a0) := by
  (intro a0 k); (obtain ⟨ih0, ih1⟩ := word_TakeNum.mono_l k); (unfold word_TakeNum.f)
  repeat' first
      | (with_reducible exact ih0 _ _ _)
      | (with_reducible exact ih1 _ _ _ _)
      | (with_reducible exact LeO.refl _)
      | (with_reducible exact LeO.none _)
      | (with_reducible refine LeO.ite ?_ ?_)
      | (with_reducible refine LeO.bind ?_ (fun _ => ?_))
      | exact ih0 _ _ _
      | exact ih1 _ _ _ _
      | exact LeO.none _
      | refine LeO.ite ?_ ?_
      | refine LeO.bind ?_ (fun _ => ?_)
set_option maxHeartbeats 8000000 in
set_option maxRecDepth 100000 in
theorem word_TakeNum.calls (k : Nat) (a0 : ByteArray) (r1 : Int) (r2 : ByteArray) (r3 : Int) (w : World) (h : word_TakeNum.f k a0 = some (r1, r2, r3)) :
    Calls Try.prog 124 #[.string a0] w fun e w' => e = .returned (.tuple #[.int .i64 r1, .string r2, .int .i64 r3]) ∧ Drawn0 w w' := by
  (have H : (word_TakeNum.l0 k a0 0 0) = some (r1, r2, r3) := h); (clear h); (have H' := Aside0.mk H); (clear H); (go_enter Try.func124, Try.ntmps124); (go_wp2); (repeat (go_quiet (fail); try go_wp2)); (go_loopg [5, 7] k (fun kq v5 v7 w' => ∃ (x5_1 : Int) (x7_1 : Int), v5 = .int .i64 x5_1 ∧ v7 = .int .i64 x7_1 ∧ Aside0 (word_TakeNum.l0 kq a0 x5_1 x7_1 = some (r1, r2, r3)) ∧ Aside0 (kq ≤ k) ∧ Drawn0 w w'))
  case atStart => exact ⟨(0), (0), (by first | rfl | (simp; done) | (simp [*]; done)), (by first | rfl | (simp; done) | (simp [*]; done)), H', ⟨Nat.le_refl _⟩, by repeat (first | exact Drawn0.refl _ | apply Drawn0.step)⟩
  case round =>
    (clear H'); (try clear c1); (obtain ⟨x5_1, x7_1, rfl, rfl, HA, HK1, ⟨m1, rfl⟩⟩ := hrel)
    cases gk with
    | zero => exact absurd HA.out (by simp [word_TakeNum.l0])
    | succ k1 =>
      (have H := HA.out); (clear HA); (simp only [word_TakeNum.l0] at H); (by_cases c2 : x7_1 < 5)
      · rw [if_pos c2] at H
        (have c2b0 : decide (x7_1 < 5) = true := decide_eq_true c2); (clear c2); (by_cases c3 : x7_1 ≥ (a0.size : Int))
        · rw [if_pos c3] at H
          (have c3b0 : decide ((a0.size : Int) ≤ x7_1) = true := decide_eq_true c3); (clear c3); (simp only [Option.some.injEq, Prod.mk.injEq] at H); (obtain ⟨rfl, rfl, rfl⟩ := H); (go_wp2); (repeat (go_quiet (fail); try go_wp2)); (go_ret3); (exact ⟨by first | rfl | (simp; done) | (simp [*]; done), by repeat (first | exact Drawn0.refl _ | apply Drawn0.step)⟩)
        · rw [if_neg c3] at H
          (have c3b0 : decide ((a0.size : Int) ≤ x7_1) = false := decide_eq_false c3); (clear c3); (by_cases c4 : 0 ≤ x7_1)
          · rw [if_pos c4] at H
            (have c4b0 : decide (0 ≤ x7_1) = true := decide_eq_true c4); (clear c4); (by_cases c5 : x7_1 < (a0.size : Int))
            · rw [if_pos c5] at H
              (have c5b0 : decide (x7_1 < (a0.size : Int)) = true := decide_eq_true c5); (clear c5); (obtain ⟨ji7, hji7⟩ : ∃ j_ : Int, (wrap64 (7 * x7_1)) = j_ := ⟨_, rfl⟩); (replace H : (if 0 ≤ (ji7) then (if (bt a0 x7_1) < 128 then (if (Go.bits .or .i64 x5_1 (shl .i64 (wrap64 (Go.bits .and .u8 (bt a0 x7_1) 127)) (ji7))) > 2147483647 then (word_TakeNum.j1 k1 a0 (Go.bits .or .i64 x5_1 (shl .i64 (wrap64 (Go.bits .and .u8 (bt a0 x7_1) 127)) (ji7))) x7_1 true) else (if x7_1 > 0 then (word_TakeNum.j1 k1 a0 (Go.bits .or .i64 x5_1 (shl .i64 (wrap64 (Go.bits .and .u8 (bt a0 x7_1) 127)) (ji7))) x7_1 ((bt a0 x7_1) == 0)) else (word_TakeNum.j1 k1 a0 (Go.bits .or .i64 x5_1 (shl .i64 (wrap64 (Go.bits .and .u8 (bt a0 x7_1) 127)) (ji7))) x7_1 false))) else (word_TakeNum.l0 k1 a0 (Go.bits .or .i64 x5_1 (shl .i64 (wrap64 (Go.bits .and .u8 (bt a0 x7_1) 127)) (ji7))) (wrap64 (x7_1 + 1)))) else (none)) = some (r1, r2, r3) := by first | (rw [hji7] at H; exact H) | (simp only [hji7] at H ⊢; exact H)); (have hji7w : (IntKind.i64.wrap (7 * x7_1)) = ji7 := (i64_w _).trans hji7); (by_cases c8 : 0 ≤ (ji7))
              · rw [if_pos c8] at H
                (have c8b0 := eq_true c8); (have c8b1 : decide (0 ≤ (ji7)) = true := decide_eq_true c8); (clear c8); (obtain ⟨ji9, hji9⟩ : ∃ j_ : Int, (shl .i64 (wrap64 (Go.bits .and .u8 (bt a0 x7_1) 127)) (ji7)) = j_ := ⟨_, rfl⟩); (replace H : (if (bt a0 x7_1) < 128 then (if (Go.bits .or .i64 x5_1 (ji9)) > 2147483647 then (word_TakeNum.j1 k1 a0 (Go.bits .or .i64 x5_1 (ji9)) x7_1 true) else (if x7_1 > 0 then (word_TakeNum.j1 k1 a0 (Go.bits .or .i64 x5_1 (ji9)) x7_1 ((bt a0 x7_1) == 0)) else (word_TakeNum.j1 k1 a0 (Go.bits .or .i64 x5_1 (ji9)) x7_1 false))) else (word_TakeNum.l0 k1 a0 (Go.bits .or .i64 x5_1 (ji9)) (wrap64 (x7_1 + 1)))) = some (r1, r2, r3) := by first | (rw [hji9] at H; exact H) | (simp only [hji9] at H ⊢; exact H)); (have hji9_ : (IntKind.i64.wrap ((wrap64 (Go.bits .and .u8 (bt a0 x7_1) 127)) * 2 ^ min (ji7).toNat 64)) = ji9 := hji9); (have hji9z : (ji7) ≤ 64 → (IntKind.i64.wrap ((wrap64 (Go.bits .and .u8 (bt a0 x7_1) 127)) * 2 ^ (ji7).toNat)) = ji9 := shl_small hji9); (have hji9y : (wrap64 ((wrap64 (Go.bits .and .u8 (bt a0 x7_1) 127)) * 2 ^ min (ji7).toNat 64)) = ji9 := (i64_w _).symm.trans hji9_)
                (have hji9x : (ji7) ≤ 64 → (wrap64 ((wrap64 (Go.bits .and .u8 (bt a0 x7_1) 127)) * 2 ^ (ji7).toNat)) = ji9 := fun h_ => (i64_w _).symm.trans (hji9z h_)); (by_cases c11 : (bt a0 x7_1) < 128)
                · rw [if_pos c11] at H
                  (have c11b0 : decide ((bt a0 x7_1) < 128) = true := decide_eq_true c11); (clear c11); (have HC12 := Aside0.mk H); (clear H); (have p6 : 0 ≤ (x7_1 : Int) := of_decide_eq_true (by first | (with_reducible assumption) | assumption)); (have q6 : x7_1 < (a0.size : Int) := of_decide_eq_true (by first | (with_reducible assumption) | assumption)); (have hx6 := bt_at a0 x7_1); (replace p6 := eq_true p6); (replace q6 := eq_true q6); (have p10 : 0 ≤ (x7_1 : Int) := of_decide_eq_true (by first | (with_reducible assumption) | assumption)); (have q10 : x7_1 < (a0.size : Int) := of_decide_eq_true (by first | (with_reducible assumption) | assumption)); (have hx10 := bt_at a0 x7_1); (replace p10 := eq_true p10); (replace q10 := eq_true q10); (go_upto_region 9 with (fail)); (repeat (go_quiet (fail); go_upto_region 9 with (fail))); (go_cut [39] (fun v39 wc => ∃ (kq : Nat) (x39_11 : Bool), v39 = .bool x39_11 ∧ Aside0 (word_TakeNum.j1 kq a0 (Go.bits .or .i64 x5_1 (ji9)) x7_1 x39_11 = some (r1, r2, r3)) ∧ Aside0 (kq ≤ k1) ∧ Drawn0 w wc))
                  case first =>
                    (have H := HC12.out); (clear HC12); (by_cases c13 : (Go.bits .or .i64 x5_1 (ji9)) > 2147483647)
                    · rw [if_pos c13] at H
                      (have c13b0 : decide (2147483647 < (Go.bits .or .i64 x5_1 (ji9))) = true := decide_eq_true c13); (clear c13); ((first | rw [c13b0] | (simp only [i64_w, i32_w]; rw [c13b0]) | skip)); (have H' := Aside0.mk H); (clear H); (go_wp2); (repeat (go_quiet (fail); try go_wp2)); (go_meet)
                      case rel => exact ⟨_, (true), (by first | rfl | (simp; done) | (simp [*]; done)), H', ⟨by have := HK1.out; first | omega | exact Nat.le_refl _⟩, by repeat (first | exact Drawn0.refl _ | apply Drawn0.step)⟩
                    · rw [if_neg c13] at H
                      (have c13b0 : decide (2147483647 < (Go.bits .or .i64 x5_1 (ji9))) = false := decide_eq_false c13); (clear c13); ((first | rw [c13b0] | (simp only [i64_w, i32_w]; rw [c13b0]) | skip)); (by_cases c14 : x7_1 > 0)
                      · rw [if_pos c14] at H
                        (have c14b0 : decide (0 < x7_1) = true := decide_eq_true c14); (clear c14); (have H' := Aside0.mk H); (clear H); (have p15 : 0 ≤ (x7_1 : Int) := of_decide_eq_true (by first | (with_reducible assumption) | assumption)); (have q15 : x7_1 < (a0.size : Int) := of_decide_eq_true (by first | (with_reducible assumption) | assumption)); (have hx15 := bt_at a0 x7_1); (replace p15 := eq_true p15); (replace q15 := eq_true q15); (go_wp2); (repeat (go_quiet (fail); try go_wp2)); (go_meet)
                        case rel => exact ⟨_, (((bt a0 x7_1) == 0)), (by first | rfl | (simp; done) | (simp [*]; done)), H', ⟨by have := HK1.out; first | omega | exact Nat.le_refl _⟩, by repeat (first | exact Drawn0.refl _ | apply Drawn0.step)⟩
                      · rw [if_neg c14] at H
                        (have c14b0 : decide (0 < x7_1) = false := decide_eq_false c14); (clear c14); (have H' := Aside0.mk H); (clear H); (go_wp2); (repeat (go_quiet (fail); try go_wp2)); (go_meet)
                        case rel => exact ⟨_, (false), (by first | rfl | (simp; done) | (simp [*]; done)), H', ⟨by have := HK1.out; first | omega | exact Nat.le_refl _⟩, by repeat (first | exact Drawn0.refl _ | apply Drawn0.step)⟩
                  case rest =>
                    (clear HC12); (try clear c1); (try clear p1); (try clear q1); (try clear hx1); (try clear c2); (try clear c2b0); (try clear p2); (try clear c3); (try clear c3b0); (try clear c4); (try clear c4b0); (try clear c5); (try clear c5b0); (try clear p6); (try clear q6); (try clear hx6); (try clear c8); (try clear c8b0); (try clear c8b1); (try clear p10); (try clear q10); (try clear hx10); (try clear c11); (try clear c11b0); (try clear c12); (try clear c13); (try clear c13b0); (try clear c14); (try clear c14b0); (try clear p15); (try clear q15); (try clear hx15); (try clear p10); (try clear p15); (try clear p6); (try clear q10); (try clear q15); (try clear q6); (obtain ⟨kq, x39_11, rfl, HA, HJ11, ⟨mc11, rfl⟩⟩ := hcut)
                    cases kq with
                    | zero => exact absurd HA.out (by simp [word_TakeNum.j1])
                    | succ kj11 =>
                      (have H := HA.out); (clear HA); (simp only [word_TakeNum.j1] at H); (by_cases c16 : x39_11 = true)
                      · subst c16
                        (have H1 : (some (0, (⟨#[]⟩ : ByteArray), 3)) = some (r1, r2, r3) := by rw [if_pos rfl] at H; exact H); (clear H); (have H := H1); (clear H1); (simp only [Option.some.injEq, Prod.mk.injEq] at H); (obtain ⟨rfl, rfl, rfl⟩ := H); (go_wp2); (repeat (go_quiet (fail); try go_wp2)); (go_ret3); (exact ⟨by first | rfl | (simp; done) | (simp only [← hji7, ← hji9] <;> (first | rfl | simp)) | (simp [*]; done), by repeat (first | exact Drawn0.refl _ | apply Drawn0.step)⟩)
                      · replace c16 := Bool.eq_false_iff.mpr c16
                        (subst c16); (have H1 : (if 0 ≤ (wrap64 (x7_1 + 1)) then (if (wrap64 (x7_1 + 1)) ≤ (a0.size : Int) then (some ((Go.bits .or .i64 x5_1 (ji9)), a0.extract ((wrap64 (x7_1 + 1)) : Int).toNat a0.size, 0)) else (none)) else (none)) = some (r1, r2, r3) := by rw [if_neg (show ¬ (false = true) by decide)] at H; exact H); (clear H); (have H := H1); (clear H1); (obtain ⟨ji17, hji17⟩ : ∃ j_ : Int, (wrap64 (x7_1 + 1)) = j_ := ⟨_, rfl⟩); (replace H : (if 0 ≤ (ji17) then (if (ji17) ≤ (a0.size : Int) then (some ((Go.bits .or .i64 x5_1 (ji9)), a0.extract ((ji17) : Int).toNat a0.size, 0)) else (none)) else (none)) = some (r1, r2, r3) := by first | (rw [hji17] at H; exact H) | (simp only [hji17] at H ⊢; exact H)); (have hji17w : (IntKind.i64.wrap (x7_1 + 1)) = ji17 := (i64_w _).trans hji17); (by_cases c18 : 0 ≤ (ji17))
                        · rw [if_pos c18] at H
                          (have c18b0 := eq_true c18); (have c18b1 : decide (0 ≤ (ji17)) = true := decide_eq_true c18); (clear c18); (by_cases c19 : (ji17) ≤ (a0.size : Int))
                          · rw [if_pos c19] at H
                            (have c19b0 := eq_true c19); (have c19b1 : decide ((ji17) ≤ (a0.size : Int)) = true := decide_eq_true c19); (clear c19); (simp only [Option.some.injEq, Prod.mk.injEq] at H); (obtain ⟨rfl, rfl, rfl⟩ := H); (go_wp2); (repeat (go_quiet (fail); try go_wp2)); (go_ret3); (exact ⟨by first | rfl | (simp; done) | (simp only [← hji7, ← hji9, ← hji17] <;> (first | rfl | simp)) | (simp [*]; done), by repeat (first | exact Drawn0.refl _ | apply Drawn0.step)⟩)
                          · rw [if_neg c19] at H
                            exact absurd H (by simp)
                        · rw [if_neg c18] at H
                          exact absurd H (by simp)
                · rw [if_neg c11] at H
                  (have c11b0 : decide ((bt a0 x7_1) < 128) = false := decide_eq_false c11); (clear c11); (have H' := Aside0.mk H); (clear H); (have p6 : 0 ≤ (x7_1 : Int) := of_decide_eq_true (by first | (with_reducible assumption) | assumption)); (have q6 : x7_1 < (a0.size : Int) := of_decide_eq_true (by first | (with_reducible assumption) | assumption)); (have hx6 := bt_at a0 x7_1); (replace p6 := eq_true p6); (replace q6 := eq_true q6); (have p10 : 0 ≤ (x7_1 : Int) := of_decide_eq_true (by first | (with_reducible assumption) | assumption)); (have q10 : x7_1 < (a0.size : Int) := of_decide_eq_true (by first | (with_reducible assumption) | assumption)); (have hx10 := bt_at a0 x7_1); (replace p10 := eq_true p10); (replace q10 := eq_true q10); (go_wp2); (repeat (go_quiet (fail); try go_wp2)); (go_roundg k1)
                  case measure => have := HK1.out; omega
                  case rel => exact ⟨(Go.bits .or .i64 x5_1 (ji9)), (wrap64 (x7_1 + 1)), (by first | rfl | (simp; done) | (simp only [← hji9] <;> (first | rfl | simp)) | (simp [*]; done)), (by first | rfl | (simp; done) | (simp [*]; done)), H', ⟨by have := HK1.out; omega⟩, by repeat (first | exact Drawn0.refl _ | apply Drawn0.step)⟩
              · rw [if_neg c8] at H
                exact absurd H (by simp)
            · rw [if_neg c5] at H
              exact absurd H (by simp)
          · rw [if_neg c4] at H
            exact absurd H (by simp)
      · rw [if_neg c2] at H
        (have c2b0 : decide (x7_1 < 5) = false := decide_eq_false c2); (clear c2); (simp only [Option.some.injEq, Prod.mk.injEq] at H); (obtain ⟨rfl, rfl, rfl⟩ := H); (go_wp2); (repeat (go_quiet (fail); try go_wp2)); (go_ret3); (exact ⟨by first | rfl | (simp; done) | (simp [*]; done), by repeat (first | exact Drawn0.refl _ | apply Drawn0.step)⟩)

end Go.Proofs.Ytnklnjghecmihaa.H6
