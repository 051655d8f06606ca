-- written by a program of this session (wip/myprint.py), over the kit's printer and the session's own contracts
import Derived.Test.YtnklnjghecmihaaH6x0
import Derived.Test.YtnklnjghecmihaaH6x30
namespace Go.Proofs.Ytnklnjghecmihaa.H6
open Go.RowKit Go.Proofs.YtnklnjghecmihaaW.PrintWords Go.Proofs.YtnklnjghecmihaaW.PrintLast Go.Proofs.YtnklnjghecmihaaW.PrintMore Go.Proofs.YtnklnjghecmihaaW.Mine
attribute [local go_sem] max2_int min2_int max_two min_two max_three min_three max_four min_four max2_str min2_str binOp_gtr_str binOp_leq_str binOp_geq_str   -- for this text's walks alone
set_option linter.unusedVariables false
set_option linter.unusedSimpArgs false

/-! ### catchmentref03_TakeNum: function 76 -/
mutual
def catchmentref03_TakeNum.l0 : Nat → ByteArray → Int → Option (Int × ByteArray × Int)
  | 0, _, _ => none
  | k + 1, x0, x5 => if x5 < (x0.size : Int) then (if x5 < 5 then (if 0 ≤ x5 then (catchmentref03_TakeNum.j1 k x0 x5 (decide ((bt x0 x5) ≥ 128))) else (none)) else (catchmentref03_TakeNum.j1 k x0 x5 false)) else (catchmentref03_TakeNum.j1 k x0 x5 false)
def catchmentref03_TakeNum.j1 : Nat → ByteArray → Int → Bool → Option (Int × ByteArray × Int)
  | 0, _, _, _ => none
  | k + 1, x0, x5, x21 => if x21 = true then (catchmentref03_TakeNum.l0 k x0 (wrap64 (x5 + 1))) else (if x5 = 5 then (some (0, (⟨#[]⟩ : ByteArray), 3)) else (if x5 = (x0.size : Int) then (some (0, (⟨#[]⟩ : ByteArray), 5)) else (catchmentref03_TakeNum.l1 k x0 x5 0 x5)))
def catchmentref03_TakeNum.l1 : Nat → ByteArray → Int → Int → Int → Option (Int × ByteArray × Int)
  | 0, _, _, _, _ => none
  | k + 1, x0, x5, x6, x7 => if x7 ≥ 0 then (if 0 ≤ x7 then (if x7 < (x0.size : Int) then (catchmentref03_TakeNum.l1 k x0 x5 (wrap64 ((wrap64 (x6 * 128)) + (Int.tmod (wrap64 (bt x0 x7)) 128))) (wrap64 (x7 - 1))) else (none)) else (none)) else ((catchmentref03_Num.f k x6).bind fun t162 => (if 0 ≤ (wrap64 (x5 + 1)) then (if (wrap64 (x5 + 1)) ≤ (x0.size : Int) then (if t162.toList = (x0.extract 0 ((wrap64 (x5 + 1)) : Int).toNat).toList then (some (x6, x0.extract ((wrap64 (x5 + 1)) : Int).toNat x0.size, 0)) else (some (0, (⟨#[]⟩ : ByteArray), 3))) else (none)) else (none)))
end
def catchmentref03_TakeNum.f (k : Nat) (a0 : ByteArray) : Option (Int × ByteArray × Int) := catchmentref03_TakeNum.l0 k a0 0
theorem catchmentref03_TakeNum.mono_l : ∀ k, (∀ y0 y1, LeO (catchmentref03_TakeNum.l0 k y0 y1) (catchmentref03_TakeNum.l0 (k + 1) y0 y1)) ∧ (∀ y0 y1 y2, LeO (catchmentref03_TakeNum.j1 k y0 y1 y2) (catchmentref03_TakeNum.j1 (k + 1) y0 y1 y2)) ∧ (∀ y0 y1 y2 y3, LeO (catchmentref03_TakeNum.l1 k y0 y1 y2 y3) (catchmentref03_TakeNum.l1 (k + 1) y0 y1 y2 y3))
  | 0 => ⟨fun _ _ r h => by simp [catchmentref03_TakeNum.l0] at h, fun _ _ _ r h => by simp [catchmentref03_TakeNum.j1] at h, fun _ _ _ _ r h => by simp [catchmentref03_TakeNum.l1] at h⟩
  | k + 1 => by
    obtain ⟨ih0, ih1, ih2⟩ := catchmentref03_TakeNum.mono_l k
    refine ⟨?_, ?_, ?_⟩
    · intro y0 y1
      unfold catchmentref03_TakeNum.l0
      repeat' first
      | (with_reducible exact ih0 _ _)
      | (with_reducible exact ih1 _ _ _)
      | (with_reducible exact ih2 _ _ _ _)
      | (with_reducible exact catchmentref03_Num.mono _ _)
      | (with_reducible exact LeO.refl _)
      | (with_reducible exact LeO.none _)
      | (with_reducible refine LeO.ite ?_ ?_)
      | (with_reducible refine LeO.bind ?_ (fun _ => ?_))
      | exact ih0 _ _
      | exact ih1 _ _ _
      | exact ih2 _ _ _ _
      | exact catchmentref03_Num.mono _ _
      | exact LeO.none _
      | refine LeO.ite ?_ ?_
      | refine LeO.bind ?_ (fun _ => ?_)
    · intro y0 y1 y2
      unfold catchmentref03_TakeNum.j1
      repeat' first
      | (with_reducible exact ih0 _ _)
      | (with_reducible exact ih1 _ _ _)
      | (with_reducible exact ih2 _ _ _ _)
      | (with_reducible exact catchmentref03_Num.mono _ _)
      | (with_reducible exact LeO.refl _)
      | (with_reducible exact LeO.none _)
      | (with_reducible refine LeO.ite ?_ ?_)
      | (with_reducible refine LeO.bind ?_ (fun _ => ?_))
      | exact ih0 _ _
      | exact ih1 _ _ _
      | exact ih2 _ _ _ _
      | exact catchmentref03_Num.mono _ _
      | exact LeO.none _
      | refine LeO.ite ?_ ?_
      | refine LeO.bind ?_ (fun _ => ?_)
    · intro y0 y1 y2 y3
      unfold catchmentref03_TakeNum.l1
      repeat' first
      | (with_reducible exact ih0 _ _)
      | (with_reducible exact ih1 _ _ _)
      | (with_reducible exact ih2 _ _ _ _)
      | (with_reducible exact catchmentref03_Num.mono _ _)
      | (with_reducible exact LeO.refl _)
      | (with_reducible exact LeO.none _)
      | (with_reducible refine LeO.ite ?_ ?_)
      | (with_reducible refine LeO.bind ?_ (fun _ => ?_))
      | exact ih0 _ _
      | exact ih1 _ _ _
      | exact ih2 _ _ _ _
      | exact catchmentref03_Num.mono _ _
      | exact LeO.none _
      | refine LeO.ite ?_ ?_
      | refine LeO.bind ?_ (fun _ => ?_)
theorem catchmentref03_TakeNum.mono : ∀ a0 k, LeO (catchmentref03_TakeNum.f k a0) (catchmentref03_TakeNum.f (k + 1) a0) := by
  (intro a0 k); (obtain ⟨ih0, ih1, ih2⟩ := catchmentref03_TakeNum.mono_l k); (unfold catchmentref03_TakeNum.f)
  repeat' first
      | (with_reducible exact ih0 _ _)
      | (with_reducible exact ih1 _ _ _)
      | (with_reducible exact ih2 _ _ _ _)
      | (with_reducible exact catchmentref03_Num.mono _ _)
      | (with_reducible exact LeO.refl _)
      | (with_reducible exact LeO.none _)
      | (with_reducible refine LeO.ite ?_ ?_)
      | (with_reducible refine LeO.bind ?_ (fun _ => ?_))
      | exact ih0 _ _
      | exact ih1 _ _ _
      | exact ih2 _ _ _ _
      | exact catchmentref03_Num.mono _ _
      | exact LeO.none _
      | refine LeO.ite ?_ ?_
      | refine LeO.bind ?_ (fun _ => ?_)
def catchmentref03_TakeNum.T15 : Bool × List (List Nat × List Nat) := (true, [([], []), ([], []), ([], []), ([2], [2]), ([1, 3], [1, 3]), ([0, 0], [0]), ([4, 5, 0, 1, 2, 3, 4, 5], [4]), ([6, 0, 1, 2, 3, 4, 5, 6], [])])
def catchmentref03_TakeNum.B15 : List Nat := [0, 0, 0, 4, 14, 1, 63, 127]
theorem catchmentref03_TakeNum.tab15 : rtab .any (opsOf Try.f76 15) = catchmentref03_TakeNum.T15 := by kernel_rfl
theorem catchmentref03_TakeNum.bits15 : waitsOk catchmentref03_TakeNum.T15.2 catchmentref03_TakeNum.B15 = true := by kernel_rfl
set_option maxHeartbeats 8000000 in
set_option maxRecDepth 100000 in
theorem catchmentref03_TakeNum.calls (k : Nat) (a0 : ByteArray) (r1 : Int) (r2 : ByteArray) (r3 : Int) (w : World) (h : catchmentref03_TakeNum.f k a0 = some (r1, r2, r3)) :
    Calls Try.prog 76 #[.string a0] w fun e w' => e = .returned (.tuple #[.int .i64 r1, .string r2, .int .i64 r3]) ∧ Below w.heap.size w w' := by
  (have HB := Aside0.mk (Below.refl w.heap.size w)); (have H : (catchmentref03_TakeNum.l0 k a0 0) = some (r1, r2, r3) := h); (clear h); (have H' := Aside0.mk H); (clear H); (go_enter Try.func76, Try.ntmps76); (go_wp2); (go_loopg [5] k (fun kq v5 w' => ∃ (x5_1 : Int), v5 = .int .i64 x5_1 ∧ Aside0 (catchmentref03_TakeNum.l0 kq a0 x5_1 = some (r1, r2, r3)) ∧ Aside0 (kq ≤ k) ∧ Aside0 (Below w.heap.size w w')))
  case atStart => exact ⟨(0), (by first | rfl | (simp; done) | (simp [*]; done)), H', ⟨Nat.le_refl _⟩, ⟨by repeat (first | (with_reducible first | exact HB.out | apply y1_ | apply y2_ | apply y3_) | exact HB.out)⟩⟩
  case round =>
    (clear H'); (obtain ⟨x5_1, rfl, HA, HK1, HB⟩ := hrel)
    cases gk with
    | zero => exact absurd HA.out (by simp [catchmentref03_TakeNum.l0])
    | succ k1 =>
      (have H := HA.out); (clear HA); (simp only [catchmentref03_TakeNum.l0] at H); (have HC2 := Aside0.mk H); (clear H); (go_upto_region 2 with (fail)); (go_cut [21] (fun v21 wc => ∃ (kq : Nat) (x21_1 : Bool), v21 = .bool x21_1 ∧ Aside0 (catchmentref03_TakeNum.j1 kq a0 x5_1 x21_1 = some (r1, r2, r3)) ∧ Aside0 (kq ≤ k1) ∧ Aside0 (Below w.heap.size w wc)))
      case first =>
        (have H := HC2.out); (clear HC2); (by_cases c3 : x5_1 < (a0.size : Int))
        · rw [if_pos c3] at H
          (have c3b0 : decide (x5_1 < (a0.size : Int)) = true := decide_eq_true c3); (clear c3); ((first | rw [c3b0] | (simp only [i64_w, i32_w]; rw [c3b0]) | skip)); (by_cases c4 : x5_1 < 5)
          · rw [if_pos c4] at H
            (have c4b0 : decide (x5_1 < 5) = true := decide_eq_true c4); (clear c4); (by_cases c5 : 0 ≤ x5_1)
            · rw [if_pos c5] at H
              (have c5b0 : decide (0 ≤ x5_1) = true := decide_eq_true c5); (clear c5); (have H' := Aside0.mk H); (clear H); (have p6 : 0 ≤ (x5_1 : Int) := of_decide_eq_true (by first | (with_reducible assumption) | assumption)); (have q6 : x5_1 < (a0.size : Int) := of_decide_eq_true (by first | (with_reducible assumption) | assumption)); (have hx6 := bt_at a0 x5_1); (replace p6 := eq_true p6); (replace q6 := eq_true q6); (go_wp2); (go_meet)
              case rel => exact ⟨_, (decide ((bt a0 x5_1) ≥ 128)), (by first | rfl | (simp; done) | (simp [*]; done)), H', ⟨by have := HK1.out; first | omega | exact Nat.le_refl _⟩, ⟨by repeat (first | (with_reducible first | exact HB.out | apply y1_ | apply y2_ | apply y3_) | exact HB.out)⟩⟩
            · rw [if_neg c5] at H
              exact absurd H (by simp)
          · rw [if_neg c4] at H
            (have c4b0 : decide (x5_1 < 5) = false := decide_eq_false c4); (clear c4); (have H' := Aside0.mk H); (clear H); (go_wp2); (go_meet)
            case rel => exact ⟨_, (false), (by first | rfl | (simp; done) | (simp [*]; done)), H', ⟨by have := HK1.out; first | omega | exact Nat.le_refl _⟩, ⟨by repeat (first | (with_reducible first | exact HB.out | apply y1_ | apply y2_ | apply y3_) | exact HB.out)⟩⟩
        · rw [if_neg c3] at H
          (have c3b0 : decide (x5_1 < (a0.size : Int)) = false := decide_eq_false c3); (clear c3); ((first | rw [c3b0] | (simp only [i64_w, i32_w]; rw [c3b0]) | skip)); (have H' := Aside0.mk H); (clear H); (go_wp2); (go_meet)
          case rel => exact ⟨_, (false), (by first | rfl | (simp; done) | (simp [*]; done)), H', ⟨by have := HK1.out; first | omega | exact Nat.le_refl _⟩, ⟨by repeat (first | (with_reducible first | exact HB.out | apply y1_ | apply y2_ | apply y3_) | exact HB.out)⟩⟩
      case rest =>
        (clear HC2); (try clear p2); (try clear c3); (try clear c3b0); (try clear c4); (try clear c4b0); (try clear c5); (try clear c5b0); (try clear p6); (try clear q6); (try clear hx6); (try clear p6); (try clear q6); (obtain ⟨kq, x21_1, rfl, HA, HJ1, HB⟩ := hcut)
        cases kq with
        | zero => exact absurd HA.out (by simp [catchmentref03_TakeNum.j1])
        | succ kj1 =>
          (have H := HA.out); (clear HA); (simp only [catchmentref03_TakeNum.j1] at H); (by_cases c7 : x21_1 = true)
          · subst c7
            (have H1 : (catchmentref03_TakeNum.l0 kj1 a0 (wrap64 (x5_1 + 1))) = some (r1, r2, r3) := by rw [if_pos rfl] at H; exact H); (clear H); (have H := H1); (clear H1); (have H' := Aside0.mk H); (clear H); (go_wp2); (go_roundg kj1)
            case measure => have := HK1.out; have := HJ1.out; omega
            case rel => exact ⟨(wrap64 (x5_1 + 1)), (by first | rfl | (simp; done) | (simp [*]; done)), H', ⟨by have := HK1.out; have := HJ1.out; omega⟩, ⟨by repeat (first | (with_reducible first | exact HB.out | apply y1_ | apply y2_ | apply y3_) | exact HB.out)⟩⟩
          · replace c7 := Bool.eq_false_iff.mpr c7
            (subst c7); (have H1 : (if x5_1 = 5 then (some (0, (⟨#[]⟩ : ByteArray), 3)) else (if x5_1 = (a0.size : Int) then (some (0, (⟨#[]⟩ : ByteArray), 5)) else (catchmentref03_TakeNum.l1 kj1 a0 x5_1 0 x5_1))) = some (r1, r2, r3) := by rw [if_neg (show ¬ (false = true) by decide)] at H; exact H); (clear H); (have H := H1); (clear H1); (by_cases c8 : x5_1 = 5)
            · rw [if_pos c8] at H
              (have c8b0 : (x5_1 == 5) = true := beq_iff_eq.mpr c8); (have c8b1 : (x5_1 != 5) = false := bne_eq_false_iff_eq.mpr c8); (clear c8); (simp only [Option.some.injEq, Prod.mk.injEq] at H); (obtain ⟨rfl, rfl, rfl⟩ := H); (go_wp2); (go_ret3); (exact ⟨by first | rfl | (simp [errW_none, errW_some] <;> rfl) | (simp [*, errW_none, errW_some] <;> rfl), by repeat (first | (with_reducible first | exact HB.out | apply y1_ | apply y2_ | apply y3_) | exact HB.out)⟩)
            · rw [if_neg c8] at H
              (have c8b0 : (x5_1 == 5) = false := beq_eq_false_iff_ne.mpr c8); (have c8b1 : (x5_1 != 5) = true := bne_iff_ne.mpr c8); (by_cases c9 : x5_1 = (a0.size : Int))
              · rw [if_pos c9] at H
                (have c9b0 : (x5_1 == (a0.size : Int)) = true := beq_iff_eq.mpr c9); (have c9b1 : (x5_1 != (a0.size : Int)) = false := bne_eq_false_iff_eq.mpr c9); (clear c9); (simp only [Option.some.injEq, Prod.mk.injEq] at H); (obtain ⟨rfl, rfl, rfl⟩ := H); (go_wp2); (go_ret3); (exact ⟨by first | rfl | (simp [errW_none, errW_some] <;> rfl) | (simp [*, errW_none, errW_some] <;> rfl), by repeat (first | (with_reducible first | exact HB.out | apply y1_ | apply y2_ | apply y3_) | exact HB.out)⟩)
              · rw [if_neg c9] at H
                (have c9b0 : (x5_1 == (a0.size : Int)) = false := beq_eq_false_iff_ne.mpr c9); (have c9b1 : (x5_1 != (a0.size : Int)) = true := bne_iff_ne.mpr c9); (have H' := Aside0.mk H); (clear H); (go_wp2); (go_loopg [6, 7] kj1 (fun kq v6 v7 w' => ∃ (x6_3 : Int) (x7_3 : Int), v6 = .int .i64 x6_3 ∧ v7 = .int .i64 x7_3 ∧ Aside0 (catchmentref03_TakeNum.l1 kq a0 x5_1 x6_3 x7_3 = some (r1, r2, r3)) ∧ Aside0 (kq ≤ kj1) ∧ Aside0 (Below w.heap.size w w')))
                case atStart => exact ⟨(0), (x5_1), (by first | rfl | (simp; done) | (simp [*]; done)), (by first | rfl | (simp; done) | (simp [*]; done)), H', ⟨Nat.le_refl _⟩, ⟨by repeat (first | (with_reducible first | exact HB.out | apply y1_ | apply y2_ | apply y3_) | exact HB.out)⟩⟩
                case round =>
                  (clear H'); (try clear p2); (try clear c3); (try clear c3b0); (try clear c4); (try clear c4b0); (try clear c5); (try clear c5b0); (try clear p6); (try clear q6); (try clear hx6); (try clear c7); (try clear c8); (try clear c8b0); (try clear c8b1); (try clear c9); (try clear c9b0); (try clear c9b1); (try clear p2); (try clear p6); (try clear q6); (obtain ⟨x6_3, x7_3, rfl, rfl, HA, HK3, HB⟩ := hrel)
                  cases gk with
                  | zero => exact absurd HA.out (by simp [catchmentref03_TakeNum.l1])
                  | succ k3 =>
                    (have H := HA.out); (clear HA); (simp only [catchmentref03_TakeNum.l1] at H); (by_cases c10 : x7_3 ≥ 0)
                    · rw [if_pos c10] at H
                      (have c10b0 : decide (0 ≤ x7_3) = true := decide_eq_true c10); (clear c10); (by_cases c11 : 0 ≤ x7_3)
                      · rw [if_pos c11] at H
                        (have c11b0 : decide (0 ≤ x7_3) = true := decide_eq_true c11); (clear c11); (by_cases c12 : x7_3 < (a0.size : Int))
                        · rw [if_pos c12] at H
                          (have c12b0 : decide (x7_3 < (a0.size : Int)) = true := decide_eq_true c12); (clear c12); (have H' := Aside0.mk H); (clear H); (have p13 : 0 ≤ (x7_3 : Int) := of_decide_eq_true (by first | (with_reducible assumption) | assumption)); (have q13 : x7_3 < (a0.size : Int) := of_decide_eq_true (by first | (with_reducible assumption) | assumption)); (have hx13 := bt_at a0 x7_3); (replace p13 := eq_true p13); (replace q13 := eq_true q13); (go_wp2); (go_roundg k3)
                          case measure => have := HK1.out; have := HJ1.out; have := HK3.out; omega
                          case rel => exact ⟨(wrap64 ((wrap64 (x6_3 * 128)) + (Int.tmod (wrap64 (bt a0 x7_3)) 128))), (wrap64 (x7_3 - 1)), (by first | rfl | (simp; done) | (simp [*]; done)), (by first | rfl | (simp; done) | (simp [*]; done)), H', ⟨by have := HK1.out; have := HJ1.out; have := HK3.out; omega⟩, ⟨by repeat (first | (with_reducible first | exact HB.out | apply y1_ | apply y2_ | apply y3_) | exact HB.out)⟩⟩
                        · rw [if_neg c12] at H
                          exact absurd H (by simp)
                      · rw [if_neg c11] at H
                        exact absurd H (by simp)
                    · rw [if_neg c10] at H
                      (have c10b0 : decide (0 ≤ x7_3) = false := decide_eq_false c10); (clear c10); (replace H := Option.bind_eq_some_iff.mp H); (obtain ⟨t162, A140, H⟩ := H); (replace H : (if 0 ≤ (wrap64 (x5_1 + 1)) then (if (wrap64 (x5_1 + 1)) ≤ (a0.size : Int) then (if t162.toList = (a0.extract 0 ((wrap64 (x5_1 + 1)) : Int).toNat).toList then (some (x6_3, a0.extract ((wrap64 (x5_1 + 1)) : Int).toNat a0.size, 0)) else (some (0, (⟨#[]⟩ : ByteArray), 3))) else (none)) else (none)) = some (r1, r2, r3) := H); (have A14 := Aside0.mk A140); (clear A140); (obtain ⟨ji15, hji15⟩ : ∃ j_ : Int, (wrap64 (x5_1 + 1)) = j_ := ⟨_, rfl⟩); (replace H : (if 0 ≤ (ji15) then (if (ji15) ≤ (a0.size : Int) then (if t162.toList = (a0.extract 0 ((ji15) : Int).toNat).toList then (some (x6_3, a0.extract ((ji15) : Int).toNat a0.size, 0)) else (some (0, (⟨#[]⟩ : ByteArray), 3))) else (none)) else (none)) = some (r1, r2, r3) := by first | (rw [hji15] at H; exact H) | (simp only [hji15] at H ⊢; exact H)); ((try rw [hji15] at A14)); (have hji15w : (IntKind.i64.wrap (x5_1 + 1)) = ji15 := (i64_w _).trans hji15); (by_cases c16 : 0 ≤ (ji15))
                      · rw [if_pos c16] at H
                        (have c16b0 := eq_true c16); (have c16b1 : decide (0 ≤ (ji15)) = true := decide_eq_true c16); (clear c16); (by_cases c17 : (ji15) ≤ (a0.size : Int))
                        · rw [if_pos c17] at H
                          (have c17b0 := eq_true c17); (have c17b1 : decide ((ji15) ≤ (a0.size : Int)) = true := decide_eq_true c17); (clear c17); (by_cases c18 : t162.toList = (a0.extract 0 ((ji15) : Int).toNat).toList)
                          · rw [if_pos c18] at H
                            (have c18b0 : (t162.toList == (a0.extract 0 ((ji15) : Int).toNat).toList) = true := beq_iff_eq.mpr c18); (have c18b1 : (t162.toList != (a0.extract 0 ((ji15) : Int).toNat).toList) = false := bne_eq_false_iff_eq.mpr c18); (clear c18); (have c19b0 := eq_true (of_decide_eq_true (by first | (with_reducible assumption) | assumption) : 0 ≤ (ji15))); (have c20b0 := eq_true (of_decide_eq_true (by first | (with_reducible assumption) | assumption) : (ji15) ≤ (a0.size : Int))); (simp only [Option.some.injEq, Prod.mk.injEq] at H); (obtain ⟨rfl, rfl, rfl⟩ := H); (try go_wp2); (have n0_ := Aside0.mk (below_drew1 HB.out)); (clear HB); (have HB := n0_); (clear n0_); (refine start_ (n := 7) (S := fun w' => True) (ds := []) #[false, false, false, false, false, false, false] (by kernel_rfl) rfl rfl trivial (fun hHeld => ?_)); (generalize wr.drew = w21 at HB hHeld ⊢); (refine pure_ (i := 0) (N := some 43) (v := ?_) (a' := ?_) #[true, false, false, false, false, false, false] rfl rfl (by kernel_rfl) (fun _ _ _ h => h) (Or.inl ⟨by rfl, ?_⟩) ?_ ?_)
                            rotate_left
                            · intro w'
                              (go_simp); (with_reducible rfl)
                            rotate_left
                            · simp only [pt_, pn_, sz_, ss_, i64_w, i32_w]
                              rfl
                            refine pure_ (i := 2) (N := some 45) (v := ?_) (a' := ?_) #[true, false, true, false, false, false, false] rfl rfl (by kernel_rfl) (fun _ _ _ h => h) (Or.inl ⟨by rfl, ?_⟩) ?_ ?_
                            rotate_left
                            · intro w'
                              (go_simp); (with_reducible rfl)
                            rotate_left
                            · simp only [pt_, pn_, sz_, ss_, i64_w, i32_w]
                              rfl
                            refine pure_ (i := 3) (N := some 46) (v := ?_) (a' := ?_) #[true, false, true, true, false, false, false] rfl rfl (by kernel_rfl) (fun _ _ _ h => h) (Or.inl ⟨by rfl, ?_⟩) ?_ ?_
                            rotate_left
                            · intro w'
                              (go_simp); (with_reducible rfl)
                            rotate_left
                            · simp only [pt_, pn_, sz_, ss_, i64_w, i32_w]
                              rfl
                            refine pure_ (i := 4) (N := some 47) (v := ?_) (a' := ?_) #[true, false, true, true, true, false, false] rfl rfl (by kernel_rfl) (fun _ _ _ h => h) (Or.inl ⟨by rfl, ?_⟩) ?_ ?_
                            rotate_left
                            · intro w'
                              (go_simp); (with_reducible rfl)
                            rotate_left
                            · simp only [pt_, pn_, sz_, ss_, i64_w, i32_w]
                              rfl
                            refine pure_ (i := 5) (N := some 48) (v := ?_) (a' := ?_) #[true, false, true, true, true, true, false] rfl rfl (by kernel_rfl) (fun _ _ _ h => h) (Or.inl ⟨by rfl, ?_⟩) ?_ ?_
                            rotate_left
                            · intro w'
                              (go_simp); (with_reducible rfl)
                            rotate_left
                            · simp only [pt_, pn_, sz_, ss_, i64_w, i32_w]
                              rfl
                            (refine one_ (i := 1) (N := some 44) #[true, true, true, true, true, true, false] rfl rfl (by kernel_rfl) (by decide) (fun K hK => ?_)); (refine goes_ Try.func85 (by kernel_rfl) rfl #[.int .i64 x6_3] (by rfl) rfl rfl (by (try simp only [List.map_toArray, List.map_cons, List.map_nil]); first | done | rfl | (simp only [List.length_drop, List.length_take]; rfl)) ?_); (with_reducible refine (catchmentref03_Num.calls k3 x6_3 t162 _ A14.out).mono ?_); (rintro e w22 ⟨rfl, hb⟩); (refine ⟨_, rfl, ?_⟩); (have n0_ := Aside0.mk (below_step (by repeat (first | (with_reducible first | exact HB.out | apply y1_ | apply y2_ | apply y3_) | exact HB.out)) hb)); (clear HB); (have HB := n0_); (clear n0_); ((try clear hb)); ((try clear hb2)); ((try clear hk)); ((try clear hi)); (refine hK.out _ _ trivial (fun hHeld => ?_)); (clear hK K); (refine norm_ (a' := ?_) ?_ ?_)
                            rotate_left
                            · show Act.put _ (some 44) _ = _
                              (simp only [pt_, pn_, sz_, ss_, i64_w, i32_w]); (rfl)
                            refine pure_ (i := 6) (N := some 49) (v := ?_) (a' := ?_) #[true, true, true, true, true, true, true] rfl rfl (by kernel_rfl) (fun _ _ _ h => h) (Or.inl ⟨by rfl, ?_⟩) ?_ ?_
                            rotate_left
                            · intro w'
                              (go_simp); (with_reducible rfl)
                            rotate_left
                            · simp only [pt_, pn_, sz_, ss_, i64_w, i32_w]
                              rfl
                            (refine done_ (by kernel_rfl) ?_); (try go_wp2); (have n0_ := Aside0.mk (below_drew1 HB.out)); (clear HB); (have HB := n0_); (clear n0_); (refine start_ (n := 8) (S := fun w' => True) (ds := []) #[false, false, false, false, false, false, false, false] (by kernel_rfl) rfl rfl trivial (fun hHeld => ?_); refine with_tabW catchmentref03_TakeNum.tab15 catchmentref03_TakeNum.bits15 (fun HT_ HW_ => ?_)); (generalize w22.drew = w23 at HB hHeld ⊢); (refine pu_ (i := 0) (N := some 50) (v := ?_) (a' := ?_) HT_.out rfl rfl (.inl ⟨by rfl, ?_⟩) ?_ ?_; rotate_left)
                            · intro w'; go_simp; with_reducible rfl
                            rotate_left
                            · simp only [pt_, pn_, sz_, ss_, i64_w, i32_w]; rfl
                            refine pu_ (i := 1) (N := some 51) (v := ?_) (a' := ?_) HT_.out rfl rfl (.inl ⟨by rfl, ?_⟩) ?_ ?_; rotate_left
                            · intro w'; go_simp; with_reducible rfl
                            rotate_left
                            · simp only [pt_, pn_, sz_, ss_, i64_w, i32_w]; rfl
                            refine pu_ (i := 2) (N := some 52) (v := ?_) (a' := ?_) HT_.out rfl rfl (.inl ⟨by rfl, ?_⟩) ?_ ?_; rotate_left
                            · intro w'; go_simp; with_reducible rfl
                            rotate_left
                            · simp only [pt_, pn_, sz_, ss_, i64_w, i32_w]; rfl
                            refine pu_ (i := 3) (N := some 53) (v := ?_) (a' := ?_) HT_.out rfl rfl (.inl ⟨by rfl, ?_⟩) ?_ ?_; rotate_left
                            · intro w'; go_simp; with_reducible rfl
                            rotate_left
                            · simp only [pt_, pn_, sz_, ss_, i64_w, i32_w]; rfl
                            refine pu_ (i := 4) (N := some 54) (v := ?_) (a' := ?_) HT_.out rfl rfl (.inl ⟨by rfl, ?_⟩) ?_ ?_; rotate_left
                            · intro w'; go_simp; with_reducible rfl
                            rotate_left
                            · simp only [pt_, pn_, sz_, ss_, i64_w, i32_w]; rfl
                            refine pu_ (i := 5) (N := some 2) (v := ?_) (a' := ?_) HT_.out rfl rfl (.inl ⟨by rfl, ?_⟩) ?_ ?_; rotate_left
                            · intro w'; go_simp; with_reducible rfl
                            rotate_left
                            · simp only [pt_, pn_, sz_, ss_, i64_w, i32_w]; rfl
                            refine pu_ (i := 6) (N := some 3) (v := ?_) (a' := ?_) HT_.out rfl rfl (.inl ⟨by rfl, ?_⟩) ?_ ?_; rotate_left
                            · intro w'; go_simp; with_reducible rfl
                            rotate_left
                            · simp only [pt_, pn_, sz_, ss_, i64_w, i32_w]; rfl
                            refine pu_ (i := 7) (N := some 4) (v := ?_) (a' := ?_) HT_.out rfl rfl (.inl ⟨by rfl, ?_⟩) ?_ ?_; rotate_left
                            · intro w'; go_simp; with_reducible rfl
                            rotate_left
                            · simp only [pt_, pn_, sz_, ss_, i64_w, i32_w]; rfl
                            (refine done_ (done_of HT_.out (by kernel_rfl)) ?_); (try go_wp2); (go_ret3); (exact ⟨by first | rfl | (simp [errW_none, errW_some] <;> rfl) | (simp only [← hji15]; first | rfl | (simp [errW_none, errW_some] <;> rfl)) | (simp [*, errW_none, errW_some] <;> rfl), by repeat (first | (with_reducible first | exact HB.out | apply y1_ | apply y2_ | apply y3_) | exact HB.out)⟩)
                          · rw [if_neg c18] at H
                            (have c18b0 : (t162.toList == (a0.extract 0 ((ji15) : Int).toNat).toList) = false := beq_eq_false_iff_ne.mpr c18); (have c18b1 : (t162.toList != (a0.extract 0 ((ji15) : Int).toNat).toList) = true := bne_iff_ne.mpr c18); (simp only [Option.some.injEq, Prod.mk.injEq] at H); (obtain ⟨rfl, rfl, rfl⟩ := H); (try go_wp2); (have n0_ := Aside0.mk (below_drew1 HB.out)); (clear HB); (have HB := n0_); (clear n0_); (refine start_ (n := 7) (S := fun w' => True) (ds := []) #[false, false, false, false, false, false, false] (by kernel_rfl) rfl rfl trivial (fun hHeld => ?_)); (generalize wr.drew = w24 at HB hHeld ⊢); (refine pure_ (i := 0) (N := some 43) (v := ?_) (a' := ?_) #[true, false, false, false, false, false, false] rfl rfl (by kernel_rfl) (fun _ _ _ h => h) (Or.inl ⟨by rfl, ?_⟩) ?_ ?_)
                            rotate_left
                            · intro w'
                              (go_simp); (with_reducible rfl)
                            rotate_left
                            · simp only [pt_, pn_, sz_, ss_, i64_w, i32_w]
                              rfl
                            refine pure_ (i := 2) (N := some 45) (v := ?_) (a' := ?_) #[true, false, true, false, false, false, false] rfl rfl (by kernel_rfl) (fun _ _ _ h => h) (Or.inl ⟨by rfl, ?_⟩) ?_ ?_
                            rotate_left
                            · intro w'
                              (go_simp); (with_reducible rfl)
                            rotate_left
                            · simp only [pt_, pn_, sz_, ss_, i64_w, i32_w]
                              rfl
                            refine pure_ (i := 3) (N := some 46) (v := ?_) (a' := ?_) #[true, false, true, true, false, false, false] rfl rfl (by kernel_rfl) (fun _ _ _ h => h) (Or.inl ⟨by rfl, ?_⟩) ?_ ?_
                            rotate_left
                            · intro w'
                              (go_simp); (with_reducible rfl)
                            rotate_left
                            · simp only [pt_, pn_, sz_, ss_, i64_w, i32_w]
                              rfl
                            refine pure_ (i := 4) (N := some 47) (v := ?_) (a' := ?_) #[true, false, true, true, true, false, false] rfl rfl (by kernel_rfl) (fun _ _ _ h => h) (Or.inl ⟨by rfl, ?_⟩) ?_ ?_
                            rotate_left
                            · intro w'
                              (go_simp); (with_reducible rfl)
                            rotate_left
                            · simp only [pt_, pn_, sz_, ss_, i64_w, i32_w]
                              rfl
                            refine pure_ (i := 5) (N := some 48) (v := ?_) (a' := ?_) #[true, false, true, true, true, true, false] rfl rfl (by kernel_rfl) (fun _ _ _ h => h) (Or.inl ⟨by rfl, ?_⟩) ?_ ?_
                            rotate_left
                            · intro w'
                              (go_simp); (with_reducible rfl)
                            rotate_left
                            · simp only [pt_, pn_, sz_, ss_, i64_w, i32_w]
                              rfl
                            (refine one_ (i := 1) (N := some 44) #[true, true, true, true, true, true, false] rfl rfl (by kernel_rfl) (by decide) (fun K hK => ?_)); (refine goes_ Try.func85 (by kernel_rfl) rfl #[.int .i64 x6_3] (by rfl) rfl rfl (by (try simp only [List.map_toArray, List.map_cons, List.map_nil]); first | done | rfl | (simp only [List.length_drop, List.length_take]; rfl)) ?_); (with_reducible refine (catchmentref03_Num.calls k3 x6_3 t162 _ A14.out).mono ?_); (rintro e w25 ⟨rfl, hb⟩); (refine ⟨_, rfl, ?_⟩); (have n0_ := Aside0.mk (below_step (by repeat (first | (with_reducible first | exact HB.out | apply y1_ | apply y2_ | apply y3_) | exact HB.out)) hb)); (clear HB); (have HB := n0_); (clear n0_); ((try clear hb)); ((try clear hb2)); ((try clear hk)); ((try clear hi)); (refine hK.out _ _ trivial (fun hHeld => ?_)); (clear hK K); (refine norm_ (a' := ?_) ?_ ?_)
                            rotate_left
                            · show Act.put _ (some 44) _ = _
                              (simp only [pt_, pn_, sz_, ss_, i64_w, i32_w]); (rfl)
                            refine pure_ (i := 6) (N := some 49) (v := ?_) (a' := ?_) #[true, true, true, true, true, true, true] rfl rfl (by kernel_rfl) (fun _ _ _ h => h) (Or.inl ⟨by rfl, ?_⟩) ?_ ?_
                            rotate_left
                            · intro w'
                              (go_simp); (with_reducible rfl)
                            rotate_left
                            · simp only [pt_, pn_, sz_, ss_, i64_w, i32_w]
                              rfl
                            (refine done_ (by kernel_rfl) ?_); (try go_wp2); (go_ret3); (exact ⟨by first | rfl | (simp [errW_none, errW_some] <;> rfl) | (simp only [← hji15]; first | rfl | (simp [errW_none, errW_some] <;> rfl)) | (simp [*, errW_none, errW_some] <;> rfl), by repeat (first | (with_reducible first | exact HB.out | apply y1_ | apply y2_ | apply y3_) | exact HB.out)⟩)
                        · rw [if_neg c17] at H
                          exact absurd H (by simp)
                      · rw [if_neg c16] at H
                        exact absurd H (by simp)

end Go.Proofs.Ytnklnjghecmihaa.H6
