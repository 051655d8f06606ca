/- tight -/ -- written by wip/myprint.py
import Derived.Test.YtnklnjghecmihaaL2x0
import Derived.Test.YtnklnjghecmihaaL2P0
import Derived.Test.YtnklnjghecmihaaL2x6
namespace Go.Proofs.Ytnklnjghecmihaa.L2
open Go.RowKit Go.Proofs.YtnklnjghecmihaaW PrintWords PrintLast PrintMore Mine
attribute [local go_sem] max2_int min2_int max_two min_two max_three min_three max_four min_four max2_str min2_str binOp_gtr_str binOp_leq_str binOp_geq_str
set_option linter.unusedVariables false
set_option linter.unusedSimpArgs false
theorem q9_0 {P : Prop} (h : P := by (with_reducible repeat first | exact HB.out | apply y1_ | apply y2_ | apply y3_) <;> exact HB.out) : P := h
theorem q9_1 {P : Prop} (h : P := by rintro w' ⟨s0, s1, s2, s3, s4, s5, s6, s7, s8, s9, s10, s11⟩; go_simp; with_reducible rfl) : P := h
theorem q9_2 {P : Prop} (h : P := by exact ⟨(c1_ HB hw122_0), (c1_ HB hw122_1), (c1_ HB hw122_2), (c1_ HB hw122_3), (c1_ HB hw122_4), (c1_ HB hw122_5), (c1_ HB hw125_0), (c1_ HB hw125_1), (c1_ HB hw125_2), (c1_ HB hw125_3), (c1_ HB hw125_4), (c1_ HB hw125_5)⟩) : P := h
theorem q9_3 {P : Prop} (h : P := by simp only [putAll, Act.put, List.setIfInBounds_toArray, List.set_cons_zero, List.set_cons_succ]) : P := h
theorem q9_4 {P : Prop} (h : P := by (with_reducible repeat first | apply z1_ | apply z2_ | apply z3_); exact BK131.out) : P := h
theorem q9_5 {P : Prop} (h : P := by (with_reducible repeat first | exact HB.out | apply y1_ | apply y2_ | apply y3_ | refine y4_ ?_ GE131.out) <;> exact HB.out) : P := h
theorem q9_6 {P : Prop} (h : P := by exact ⟨((cell_far (p := ⟨gb131, _, none⟩) (nb_ hw122_0 GW131) _).trans (((cell_far (p := ⟨gb131, _, none⟩) (nb_ hw122_0 GW131) _).trans (hHeld.1)))), ((cell_far (p := ⟨gb131, _, none⟩) (nb_ hw122_1 GW131) _).trans (((cell_far (p := ⟨gb131, _, none⟩) (nb_ hw122_1 GW131) _).trans (hHeld.2.1)))), ((cell_far (p := ⟨gb131, _, none⟩) (nb_ hw122_2 GW131) _).trans (((cell_far (p := ⟨gb131, _, none⟩) (nb_ hw122_2 GW131) _).trans (hHeld.2.2.1)))), ((cell_far (p := ⟨gb131, _, none⟩) (nb_ hw122_3 GW131) _).trans (((cell_far (p := ⟨gb131, _, none⟩) (nb_ hw122_3 GW131) _).trans (hHeld.2.2.2.1)))), ((cell_far (p := ⟨gb131, _, none⟩) (nb_ hw122_4 GW131) _).trans (((cell_far (p := ⟨gb131, _, none⟩) (nb_ hw122_4 GW131) _).trans (hHeld.2.2.2.2.1)))), ((cell_far (p := ⟨gb131, _, none⟩) (nb_ hw122_5 GW131) _).trans (((cell_far (p := ⟨gb131, _, none⟩) (nb_ hw122_5 GW131) _).trans (hHeld.2.2.2.2.2.1)))), ((cell_far (p := ⟨gb131, _, none⟩) (nb_ hw125_0 GW131) _).trans (((cell_far (p := ⟨gb131, _, none⟩) (nb_ hw125_0 GW131) _).trans (hHeld.2.2.2.2.2.2.1)))), ((cell_far (p := ⟨gb131, _, none⟩) (nb_ hw125_1 GW131) _).trans (((cell_far (p := ⟨gb131, _, none⟩) (nb_ hw125_1 GW131) _).trans (hHeld.2.2.2.2.2.2.2.1)))), ((cell_far (p := ⟨gb131, _, none⟩) (nb_ hw125_2 GW131) _).trans (((cell_far (p := ⟨gb131, _, none⟩) (nb_ hw125_2 GW131) _).trans (hHeld.2.2.2.2.2.2.2.2.1)))), ((cell_far (p := ⟨gb131, _, none⟩) (nb_ hw125_3 GW131) _).trans (((cell_far (p := ⟨gb131, _, none⟩) (nb_ hw125_3 GW131) _).trans (hHeld.2.2.2.2.2.2.2.2.2.1)))), ((cell_far (p := ⟨gb131, _, none⟩) (nb_ hw125_4 GW131) _).trans (((cell_far (p := ⟨gb131, _, none⟩) (nb_ hw125_4 GW131) _).trans (hHeld.2.2.2.2.2.2.2.2.2.2.1)))), ((cell_far (p := ⟨gb131, _, none⟩) (nb_ hw125_5 GW131) _).trans (((cell_far (p := ⟨gb131, _, none⟩) (nb_ hw125_5 GW131) _).trans (hHeld.2.2.2.2.2.2.2.2.2.2.2))))⟩) : P := h
theorem q9_7 {P : Prop} (h : P := by have := HK1.out; have := HJ2.out; have := HJ11.out; have := HJ23.out; omega) : P := h

/-! ### catchmentref12_Right: function 25 -/
mutual
def catchmentref12_Right.l0 : Nat → List (S46) → Int → Option (Bool)
 | 0, _, _ => none
 | k + 1, x0, x3 => if x3 < (x0.length : Int) then (if 0 ≤ x3 then (if ((rd_T46 x0 x3).f0) < 1 then (catchmentref12_Right.j1 k x0 x3 true) else (catchmentref12_Right.j1 k x0 x3 (decide (((rd_T46 x0 x3).f0) > 4)))) else (none)) else (some true)
def catchmentref12_Right.j1 : Nat → List (S46) → Int → Bool → Option (Bool)
 | 0, _, _, _ => none
 | k + 1, x0, x3, x25 => if x25 = true then (some false) else (if 0 ≤ x3 then (if x3 < (x0.length : Int) then ((catchmentref04_Span.f ((rd_T46 x0 x3).f0) ((rd_T46 x0 x3).f1) ((rd_T46 x0 x3).f2) ((rd_T46 x0 x3).f3) ((rd_T46 x0 x3).f4) ((rd_T46 x0 x3).f5)).bind fun bt114 => ((catchmentref02_Right.f bt114.1 bt114.2).bind fun t116 => (if t116 = true then (if x3 > 0 then (if 0 ≤ (wrap64 (x3 - 1)) then (if (wrap64 (x3 - 1)) < (x0.length : Int) then ((catchmentref12_Ahead.f ((rd_T46 x0 (wrap64 (x3 - 1))).f0) ((rd_T46 x0 (wrap64 (x3 - 1))).f1) ((rd_T46 x0 (wrap64 (x3 - 1))).f2) ((rd_T46 x0 (wrap64 (x3 - 1))).f3) ((rd_T46 x0 (wrap64 (x3 - 1))).f4) ((rd_T46 x0 (wrap64 (x3 - 1))).f5) ((rd_T46 x0 x3).f0) ((rd_T46 x0 x3).f1) ((rd_T46 x0 x3).f2) ((rd_T46 x0 x3).f3) ((rd_T46 x0 x3).f4) ((rd_T46 x0 x3).f5)).bind fun t119 => (catchmentref12_Right.j2 k x0 x3 (!t119))) else (none)) else (none)) else (catchmentref12_Right.j2 k x0 x3 false)) else (some false)))) else (none)) else (none))
def catchmentref12_Right.j2 : Nat → List (S46) → Int → Bool → Option (Bool)
 | 0, _, _, _ => none
 | k + 1, x0, x3, x47 => if x47 = true then (some false) else (if x3 > 0 then (if 0 ≤ (wrap64 (x3 - 1)) then (if (wrap64 (x3 - 1)) < (x0.length : Int) then (if 0 ≤ x3 then (if x3 < (x0.length : Int) then (catchmentref12_Right.j3 k x0 x3 (((rd_T46 x0 (wrap64 (x3 - 1))).f1) == ((rd_T46 x0 x3).f1))) else (none)) else (none)) else (none)) else (none)) else (catchmentref12_Right.j3 k x0 x3 false))
def catchmentref12_Right.j3 : Nat → List (S46) → Int → Bool → Option (Bool)
 | 0, _, _, _ => none
 | k + 1, x0, x3, x63 => if x63 = true then (if 0 ≤ (wrap64 (x3 - 1)) then (if (wrap64 (x3 - 1)) < (x0.length : Int) then ((catchmentref04_Span.f ((rd_T46 x0 (wrap64 (x3 - 1))).f0) ((rd_T46 x0 (wrap64 (x3 - 1))).f1) ((rd_T46 x0 (wrap64 (x3 - 1))).f2) ((rd_T46 x0 (wrap64 (x3 - 1))).f3) ((rd_T46 x0 (wrap64 (x3 - 1))).f4) ((rd_T46 x0 (wrap64 (x3 - 1))).f5)).bind fun bt123 => (if 0 ≤ x3 then (if x3 < (x0.length : Int) then ((catchmentref04_Span.f ((rd_T46 x0 x3).f0) ((rd_T46 x0 x3).f1) ((rd_T46 x0 x3).f2) ((rd_T46 x0 x3).f3) ((rd_T46 x0 x3).f4) ((rd_T46 x0 x3).f5)).bind fun bt126 => ((catchmentref02_Meet.f bt123.1 bt123.2 bt126.1 bt126.2).bind fun bt128 => (if bt128.2.2 = true then (some false) else (catchmentref12_Right.l0 k x0 (wrap64 (x3 + 1)))))) else (none)) else (none))) else (none)) else (none)) else (catchmentref12_Right.l0 k x0 (wrap64 (x3 + 1)))
end
def catchmentref12_Right.f (k : Nat) (l0 : List (S46)) : Option (Bool) := catchmentref12_Right.l0 k l0 0
theorem catchmentref12_Right.mono_l : ∀ k, (∀ y0 y1, LeO (catchmentref12_Right.l0 k y0 y1) (catchmentref12_Right.l0 (k + 1) y0 y1)) ∧ (∀ y0 y1 y2, LeO (catchmentref12_Right.j1 k y0 y1 y2) (catchmentref12_Right.j1 (k + 1) y0 y1 y2)) ∧ (∀ y0 y1 y2, LeO (catchmentref12_Right.j2 k y0 y1 y2) (catchmentref12_Right.j2 (k + 1) y0 y1 y2)) ∧ (∀ y0 y1 y2, LeO (catchmentref12_Right.j3 k y0 y1 y2) (catchmentref12_Right.j3 (k + 1) y0 y1 y2))
 | 0 => ⟨fun _ _ r h => by simp [catchmentref12_Right.l0] at h, fun _ _ _ r h => by simp [catchmentref12_Right.j1] at h, fun _ _ _ r h => by simp [catchmentref12_Right.j2] at h, fun _ _ _ r h => by simp [catchmentref12_Right.j3] at h⟩
 | k + 1 => by
  obtain ⟨ih0, ih1, ih2, ih3⟩ := catchmentref12_Right.mono_l k
  refine ⟨?_, ?_, ?_, ?_⟩
  ·intro y0 y1
   unfold catchmentref12_Right.l0
   repeat' (with_reducible first | exact ih0 _ _ | exact ih1 _ _ _ | exact ih2 _ _ _ | exact ih3 _ _ _ | exact LeO.refl _ | exact LeO.none _ | refine LeO.ite ?_ ?_ | refine LeO.bind ?_ (fun _ => ?_))
  ·intro y0 y1 y2
   unfold catchmentref12_Right.j1
   repeat' (with_reducible first | exact ih0 _ _ | exact ih1 _ _ _ | exact ih2 _ _ _ | exact ih3 _ _ _ | exact LeO.refl _ | exact LeO.none _ | refine LeO.ite ?_ ?_ | refine LeO.bind ?_ (fun _ => ?_))
  ·intro y0 y1 y2
   unfold catchmentref12_Right.j2
   repeat' (with_reducible first | exact ih0 _ _ | exact ih1 _ _ _ | exact ih2 _ _ _ | exact ih3 _ _ _ | exact LeO.refl _ | exact LeO.none _ | refine LeO.ite ?_ ?_ | refine LeO.bind ?_ (fun _ => ?_))
  ·intro y0 y1 y2
   unfold catchmentref12_Right.j3
   repeat' (with_reducible first | exact ih0 _ _ | exact ih1 _ _ _ | exact ih2 _ _ _ | exact ih3 _ _ _ | exact LeO.refl _ | exact LeO.none _ | refine LeO.ite ?_ ?_ | refine LeO.bind ?_ (fun _ => ?_))
theorem catchmentref12_Right.mono : ∀ a0 k, LeO (catchmentref12_Right.f k a0) (catchmentref12_Right.f (k + 1) a0) := by
 (intro a0 k); (obtain ⟨ih0, ih1, ih2, ih3⟩ := catchmentref12_Right.mono_l k); (unfold catchmentref12_Right.f)
 repeat' (with_reducible first | exact ih0 _ _ | exact ih1 _ _ _ | exact ih2 _ _ _ | exact ih3 _ _ _ | exact LeO.refl _ | exact LeO.none _ | refine LeO.ite ?_ ?_ | refine LeO.bind ?_ (fun _ => ?_))
def catchmentref12_Right.T8 : Bool × List (List Nat × List Nat) := (true, [([], []), ([0], [0]), ([1], [1]), ([2], [2]), ([2], [2]), ([4, 2], [2, 4]), ([3, 5, 2], [2, 3, 5]), ([6, 2], [2, 6]), ([2], [2]), ([2], [2]), ([8, 9, 2], [2, 8, 9]), ([10, 2], [2, 10]), ([7, 11, 2, 2], [2, 7, 11]), ([12, 2], [2, 12]), ([2, 13], [2, 13])])
def catchmentref12_Right.B8 : List Nat := [0, 1, 3, 7, 7, 23, 63, 127, 7, 7, 775, 1799, 4095, 8191, 16383]
theorem catchmentref12_Right.tab8 : rtab .any (opsOf Try.f25 8) = catchmentref12_Right.T8 := by kernel_rfl
theorem catchmentref12_Right.bits8 : waitsOk catchmentref12_Right.T8.2 catchmentref12_Right.B8 = true := by kernel_rfl
def catchmentref12_Right.T10 : Bool × List (List Nat × List Nat) := (true, [([], []), ([0], [0]), ([1], [1]), ([2], [2]), ([2], [2]), ([4, 2], [2, 4]), ([3, 5, 2], [2, 3, 5]), ([6, 2], [2, 6]), ([7, 2], [2, 7]), ([2], [2]), ([2], [2]), ([9, 10, 2], [2, 9, 10]), ([11, 2], [2, 11]), ([12, 2], [2, 12]), ([8, 13, 2], [2, 8, 13]), ([2, 14], [2, 14])])
def catchmentref12_Right.B10 : List Nat := [0, 1, 3, 7, 7, 23, 63, 127, 255, 7, 7, 1543, 3591, 7687, 16383, 32767]
theorem catchmentref12_Right.tab10 : rtab .any (opsOf Try.f25 10) = catchmentref12_Right.T10 := by kernel_rfl
theorem catchmentref12_Right.bits10 : waitsOk catchmentref12_Right.T10.2 catchmentref12_Right.B10 = true := by kernel_rfl
def catchmentref12_Right.T11 : Bool × List (List Nat × List Nat) := (true, [([], []), ([], []), ([1], [1]), ([0, 2], [0, 2]), ([3], [3]), ([4], [4]), ([], []), ([], []), ([6, 7], [6, 7]), ([8], [8]), ([9, 5], [9]), ([5, 10, 10], [5, 10]), ([11], [11]), ([12], [12]), ([12], [12]), ([], []), ([15, 13, 11, 0, 1, 2, 3, 4, 5, 6, 7, 8, 9, 10, 11, 12, 13, 15], [13, 15]), ([14, 16, 0, 1, 2, 3, 4, 5, 6, 7, 8, 9, 10, 11, 12, 13, 14, 15, 16], [14])])
def catchmentref12_Right.B11 : List Nat := [0, 0, 2, 7, 15, 31, 0, 0, 192, 448, 1023, 2047, 4095, 8191, 8191, 0, 49151, 131071]
theorem catchmentref12_Right.tab11 : rtab .any (opsOf Try.f25 11) = catchmentref12_Right.T11 := by kernel_rfl
theorem catchmentref12_Right.bits11 : waitsOk catchmentref12_Right.T11.2 catchmentref12_Right.B11 = true := by kernel_rfl
set_option maxHeartbeats 8000000 in
set_option maxRecDepth 100000 in
theorem catchmentref12_Right.calls (k : Nat) (A0 : Option Addr) (c0 : Nat) (l0 : List (S46)) (r : Bool) (w : World) (hr0 : Kd.C k46 w A0 l0.length l0) (hc0 : l0.length ≤ c0) (h : catchmentref12_Right.f k l0 = some r) :
  Calls Try.prog 25 #[.slice A0 l0.length c0] w fun e w' => e = .returned (.bool r) ∧ Below w.heap.size w w' := by
 (have hu46 := Try.underlying46); (have hu48 := Try.underlying48); (have HR0 := Aside0.mk hr0); (have HC0 := Aside0.mk hc0); (clear hr0 hc0); (have HB := Aside0.mk (Below.refl w.heap.size w)); (have H : (catchmentref12_Right.l0 k l0 0) = some r := h); (clear h); (have H' := Aside0.mk H); (clear H); (go_enter Try.func25, Try.ntmps25); (go_wp2); (go_loopg [3] k (fun kq v3 w' => ∃ (x3_1 : Int), v3 = .int .i64 x3_1 ∧ Aside0 (catchmentref12_Right.l0 kq l0 x3_1 = some r) ∧ Aside0 (kq ≤ k) ∧ Aside0 (Below w.heap.size w w')))
 case atStart => exact ⟨(0), (by first | rfl | (simp; done) | (simp [*]; done)), H', ⟨Nat.le_refl _⟩, ⟨q9_0⟩⟩
 case round =>
  (clear H'); (obtain ⟨x3_1, rfl, HA, HK1, HB⟩ := hrel)
  cases gk with
  | zero => exact absurd HA.out (by simp [catchmentref12_Right.l0])
  | succ k1 =>
   (have H := HA.out); (clear HA); (simp only [catchmentref12_Right.l0] at H); (by_cases c2 : x3_1 < (l0.length : Int))
   ·rw [if_pos c2] at H
    (have c2b0 : decide (x3_1 < (l0.length : Int)) = true := decide_eq_true c2); (clear c2); (have HC3 := Aside0.mk H); (clear H); (go_upto_region 4 with (fail)); (go_cut [25] (fun v25 wc => ∃ (kq : Nat) (x25_2 : Bool), v25 = .bool x25_2 ∧ Aside0 (catchmentref12_Right.j1 kq l0 x3_1 x25_2 = some r) ∧ Aside0 (kq ≤ k1) ∧ Aside0 (Below w.heap.size w wc)))
    case first =>
     (have H := HC3.out); (clear HC3); (by_cases c4 : 0 ≤ x3_1)
     ·rw [if_pos c4] at H
      (have c4b0 : decide (0 ≤ x3_1) = true := decide_eq_true c4); (clear c4); ((first | rw [c4b0] | (simp only [i64_w, i32_w]; rw [c4b0]) | skip)); (by_cases c5 : ((rd_T46 l0 x3_1).f0) < 1)
      ·rw [if_pos c5] at H
       (have c5b0 : decide (((rd_T46 l0 x3_1).f0) < 1) = true := decide_eq_true c5); (clear c5); (have H' := Aside0.mk H); (clear H); (have p111 : 0 ≤ (x3_1 : Int) := of_decide_eq_true (by first | (with_reducible assumption) | assumption)); (have q111 : x3_1 < (l0.length : Int) := of_decide_eq_true (by first | (with_reducible assumption) | assumption)); (obtain ⟨ad111, e111, hx111_0, hx111_1, hx111_2, hx111_3, hx111_4, hx111_5⟩ := at_T46 HR0.out x3_1 p111 q111); (cases e111); (replace hx111_0 := c1_ HB hx111_0); (replace hx111_1 := c1_ HB hx111_1); (replace hx111_2 := c1_ HB hx111_2); (replace hx111_3 := c1_ HB hx111_3); (replace hx111_4 := c1_ HB hx111_4); (replace hx111_5 := c1_ HB hx111_5); (replace p111 := eq_true p111); (replace q111 := eq_true q111); (go_wp2); (go_meet)
       case rel => exact ⟨_, (true), (by first | rfl | (simp; done) | (simp [*]; done)), H', ⟨by have := HK1.out; first | omega | exact Nat.le_refl _⟩, ⟨q9_0⟩⟩
      ·rw [if_neg c5] at H
       (have c5b0 : decide (((rd_T46 l0 x3_1).f0) < 1) = false := decide_eq_false c5); (clear c5); (have H' := Aside0.mk H); (clear H); (have p111 : 0 ≤ (x3_1 : Int) := of_decide_eq_true (by first | (with_reducible assumption) | assumption)); (have q111 : x3_1 < (l0.length : Int) := of_decide_eq_true (by first | (with_reducible assumption) | assumption)); (obtain ⟨ad111, e111, hx111_0, hx111_1, hx111_2, hx111_3, hx111_4, hx111_5⟩ := at_T46 HR0.out x3_1 p111 q111); (cases e111); (replace hx111_0 := c1_ HB hx111_0); (replace hx111_1 := c1_ HB hx111_1); (replace hx111_2 := c1_ HB hx111_2); (replace hx111_3 := c1_ HB hx111_3); (replace hx111_4 := c1_ HB hx111_4); (replace hx111_5 := c1_ HB hx111_5); (replace p111 := eq_true p111); (replace q111 := eq_true q111); (have p112 : 0 ≤ (x3_1 : Int) := of_decide_eq_true (by first | (with_reducible assumption) | assumption))
       (have q112 : x3_1 < (l0.length : Int) := of_decide_eq_true (by first | (with_reducible assumption) | assumption)); (obtain ⟨ad112, e112, hx112_0, hx112_1, hx112_2, hx112_3, hx112_4, hx112_5⟩ := at_T46 HR0.out x3_1 p112 q112); (obtain rfl : ad111 = ad112 := (by injection e112)); (replace hx112_0 := c1_ HB hx112_0); (replace hx112_1 := c1_ HB hx112_1); (replace hx112_2 := c1_ HB hx112_2); (replace hx112_3 := c1_ HB hx112_3); (replace hx112_4 := c1_ HB hx112_4); (replace hx112_5 := c1_ HB hx112_5); (replace p112 := eq_true p112); (replace q112 := eq_true q112); (go_wp2); (go_meet)
       case rel => exact ⟨_, (decide (((rd_T46 l0 x3_1).f0) > 4)), (by first | rfl | (simp; done) | (simp [*]; done)), H', ⟨by have := HK1.out; first | omega | exact Nat.le_refl _⟩, ⟨q9_0⟩⟩
     ·rw [if_neg c4] at H
      exact absurd H (by simp)
    case rest =>
     (clear HC3); (try clear p1); (try clear q1); (try clear hx1); (try clear c2); (try clear c2b0); (try clear p2); (try clear c4); (try clear c4b0); (try clear c5); (try clear c5b0); (try clear hx111_0); (try clear hx111_1); (try clear hx111_2); (try clear hx111_3); (try clear hx111_4); (try clear hx111_5); (try clear hx112_0); (try clear hx112_1); (try clear hx112_2); (try clear hx112_3); (try clear hx112_4); (try clear hx112_5); (try clear p111); (try clear p112); (try clear q111); (try clear q112); (obtain ⟨kq, x25_2, rfl, HA, HJ2, HB⟩ := hcut)
     cases kq with
     | zero => exact absurd HA.out (by simp [catchmentref12_Right.j1])
     | succ kj2 =>
      (have H := HA.out); (clear HA); (simp only [catchmentref12_Right.j1] at H); (by_cases c6 : x25_2 = true)
      ·subst c6
       (have H1 : (some false) = some r := by rw [if_pos rfl] at H; exact H); (clear H); (have H := H1); (clear H1); (obtain rfl := Option.some.inj H); (go_wp2); (go_ret); (exact ⟨by first | rfl | (simp [*, errW_none, errW_some] <;> rfl), q9_0⟩)
      ·replace c6 := Bool.eq_false_iff.mpr c6
       (subst c6); (have H1 : (if 0 ≤ x3_1 then (if x3_1 < (l0.length : Int) then ((catchmentref04_Span.f ((rd_T46 l0 x3_1).f0) ((rd_T46 l0 x3_1).f1) ((rd_T46 l0 x3_1).f2) ((rd_T46 l0 x3_1).f3) ((rd_T46 l0 x3_1).f4) ((rd_T46 l0 x3_1).f5)).bind fun bt114 => ((catchmentref02_Right.f bt114.1 bt114.2).bind fun t116 => (if t116 = true then (if x3_1 > 0 then (if 0 ≤ (wrap64 (x3_1 - 1)) then (if (wrap64 (x3_1 - 1)) < (l0.length : Int) then ((catchmentref12_Ahead.f ((rd_T46 l0 (wrap64 (x3_1 - 1))).f0) ((rd_T46 l0 (wrap64 (x3_1 - 1))).f1) ((rd_T46 l0 (wrap64 (x3_1 - 1))).f2) ((rd_T46 l0 (wrap64 (x3_1 - 1))).f3) ((rd_T46 l0 (wrap64 (x3_1 - 1))).f4) ((rd_T46 l0 (wrap64 (x3_1 - 1))).f5) ((rd_T46 l0 x3_1).f0) ((rd_T46 l0 x3_1).f1) ((rd_T46 l0 x3_1).f2) ((rd_T46 l0 x3_1).f3) ((rd_T46 l0 x3_1).f4) ((rd_T46 l0 x3_1).f5)).bind fun t119 => (catchmentref12_Right.j2 kj2 l0 x3_1 (!t119))) else (none)) else (none)) else (catchmentref12_Right.j2 kj2 l0 x3_1 false)) else (some false)))) else (none)) else (none)) = some r := by rw [if_neg (show ¬ (false = true) by decide)] at H; exact H); (clear H); (have H := H1); (clear H1); (by_cases c7 : 0 ≤ x3_1)
       ·rw [if_pos c7] at H
        (have c7b0 : decide (0 ≤ x3_1) = true := decide_eq_true c7); (clear c7); (by_cases c8 : x3_1 < (l0.length : Int))
        ·rw [if_pos c8] at H
         (have c8b0 : decide (x3_1 < (l0.length : Int)) = true := decide_eq_true c8); (clear c8); (replace H := Option.bind_eq_some_iff.mp H); (obtain ⟨⟨t114, t115⟩, A90, H⟩ := H); (replace H : ((catchmentref02_Right.f t114 t115).bind fun t116 => (if t116 = true then (if x3_1 > 0 then (if 0 ≤ (wrap64 (x3_1 - 1)) then (if (wrap64 (x3_1 - 1)) < (l0.length : Int) then ((catchmentref12_Ahead.f ((rd_T46 l0 (wrap64 (x3_1 - 1))).f0) ((rd_T46 l0 (wrap64 (x3_1 - 1))).f1) ((rd_T46 l0 (wrap64 (x3_1 - 1))).f2) ((rd_T46 l0 (wrap64 (x3_1 - 1))).f3) ((rd_T46 l0 (wrap64 (x3_1 - 1))).f4) ((rd_T46 l0 (wrap64 (x3_1 - 1))).f5) ((rd_T46 l0 x3_1).f0) ((rd_T46 l0 x3_1).f1) ((rd_T46 l0 x3_1).f2) ((rd_T46 l0 x3_1).f3) ((rd_T46 l0 x3_1).f4) ((rd_T46 l0 x3_1).f5)).bind fun t119 => (catchmentref12_Right.j2 kj2 l0 x3_1 (!t119))) else (none)) else (none)) else (catchmentref12_Right.j2 kj2 l0 x3_1 false)) else (some false))) = some r := H); (have A9 := Aside0.mk A90); (clear A90); (replace H := Option.bind_eq_some_iff.mp H); (obtain ⟨t116, A100, H⟩ := H)
         (replace H : (if t116 = true then (if x3_1 > 0 then (if 0 ≤ (wrap64 (x3_1 - 1)) then (if (wrap64 (x3_1 - 1)) < (l0.length : Int) then ((catchmentref12_Ahead.f ((rd_T46 l0 (wrap64 (x3_1 - 1))).f0) ((rd_T46 l0 (wrap64 (x3_1 - 1))).f1) ((rd_T46 l0 (wrap64 (x3_1 - 1))).f2) ((rd_T46 l0 (wrap64 (x3_1 - 1))).f3) ((rd_T46 l0 (wrap64 (x3_1 - 1))).f4) ((rd_T46 l0 (wrap64 (x3_1 - 1))).f5) ((rd_T46 l0 x3_1).f0) ((rd_T46 l0 x3_1).f1) ((rd_T46 l0 x3_1).f2) ((rd_T46 l0 x3_1).f3) ((rd_T46 l0 x3_1).f4) ((rd_T46 l0 x3_1).f5)).bind fun t119 => (catchmentref12_Right.j2 kj2 l0 x3_1 (!t119))) else (none)) else (none)) else (catchmentref12_Right.j2 kj2 l0 x3_1 false)) else (some false)) = some r := H); (have A10 := Aside0.mk A100); (clear A100); (by_cases c11 : t116 = true)
         ·subst c11
          (have H1 : (if x3_1 > 0 then (if 0 ≤ (wrap64 (x3_1 - 1)) then (if (wrap64 (x3_1 - 1)) < (l0.length : Int) then ((catchmentref12_Ahead.f ((rd_T46 l0 (wrap64 (x3_1 - 1))).f0) ((rd_T46 l0 (wrap64 (x3_1 - 1))).f1) ((rd_T46 l0 (wrap64 (x3_1 - 1))).f2) ((rd_T46 l0 (wrap64 (x3_1 - 1))).f3) ((rd_T46 l0 (wrap64 (x3_1 - 1))).f4) ((rd_T46 l0 (wrap64 (x3_1 - 1))).f5) ((rd_T46 l0 x3_1).f0) ((rd_T46 l0 x3_1).f1) ((rd_T46 l0 x3_1).f2) ((rd_T46 l0 x3_1).f3) ((rd_T46 l0 x3_1).f4) ((rd_T46 l0 x3_1).f5)).bind fun t119 => (catchmentref12_Right.j2 kj2 l0 x3_1 (!t119))) else (none)) else (none)) else (catchmentref12_Right.j2 kj2 l0 x3_1 false)) = some r := by rw [if_pos rfl] at H; exact H); (clear H); (have H := H1); (clear H1); (have HC12 := Aside0.mk H); (clear H); (have p113 : 0 ≤ (x3_1 : Int) := of_decide_eq_true (by first | (with_reducible assumption) | assumption)); (have q113 : x3_1 < (l0.length : Int) := of_decide_eq_true (by first | (with_reducible assumption) | assumption)); (obtain ⟨ad113, e113, hx113_0, hx113_1, hx113_2, hx113_3, hx113_4, hx113_5⟩ := at_T46 HR0.out x3_1 p113 q113); (cases e113); (replace hx113_0 := c1_ HB hx113_0)
          (replace hx113_1 := c1_ HB hx113_1); (replace hx113_2 := c1_ HB hx113_2); (replace hx113_3 := c1_ HB hx113_3); (replace hx113_4 := c1_ HB hx113_4); (replace hx113_5 := c1_ HB hx113_5); (replace p113 := eq_true p113); (replace q113 := eq_true q113)
          go_upto_region 8 with (first | ((with_reducible refine gate_callee (f := 60) rfl ?_); refine goesL_ (some 30) rfl rfl Try.func60 (by kernel_rfl) rfl #[.agg #[.int .u8 ((rd_T46 l0 x3_1).f0), .int .i64 ((rd_T46 l0 x3_1).f1), .string ((rd_T46 l0 x3_1).f2), .string ((rd_T46 l0 x3_1).f3), .string ((rd_T46 l0 x3_1).f4), .int .u64 ((rd_T46 l0 x3_1).f5)]] rfl (by (try simp only [List.map_toArray, List.map_cons, List.map_nil]); first | done | rfl) ?_; (with_reducible refine (catchmentref04_Span.calls ((rd_T46 l0 x3_1).f0) ((rd_T46 l0 x3_1).f1) ((rd_T46 l0 x3_1).f2) ((rd_T46 l0 x3_1).f3) ((rd_T46 l0 x3_1).f4) ((rd_T46 l0 x3_1).f5) t114 t115 _ A9.out).mono ?_); rintro e w13 ⟨rfl, hb⟩; refine ⟨_, rfl, ?_⟩; have n0_ := Aside0.mk (below_step (q9_0) hb); clear HB; have HB := n0_; clear n0_; (try clear hb); (try clear hb2); (try clear hk); (try clear hi)) | ((with_reducible refine gate_callee (f := 52) rfl ?_); refine goesL_ (some 31) rfl rfl Try.func52 (by kernel_rfl) rfl #[.agg #[.string t114, .string t115]] rfl (by (try simp only [List.map_toArray, List.map_cons, List.map_nil]); first | done | rfl) ?_; (with_reducible refine (catchmentref02_Right.calls t114 t115 true _ A10.out).mono ?_); rintro e w14 ⟨rfl, hb⟩; refine ⟨_, rfl, ?_⟩; have n0_ := Aside0.mk (below_step (q9_0) hb); clear HB; have HB := n0_; clear n0_; (try clear hb); (try clear hb2); (try clear hk); (try clear hi)))
          ((try simp only [Act.put, List.setIfInBounds_toArray, List.set_cons_zero, List.set_cons_succ])); (go_cut [47] (fun v47 wc => ∃ (kq : Nat) (x47_11 : Bool), v47 = .bool x47_11 ∧ Aside0 (catchmentref12_Right.j2 kq l0 x3_1 x47_11 = some r) ∧ Aside0 (kq ≤ kj2) ∧ Aside0 (Below w.heap.size w wc)))
          case first =>
           (have H := HC12.out); (clear HC12); (by_cases c15 : x3_1 > 0)
           ·rw [if_pos c15] at H
            (have c15b0 : decide (0 < x3_1) = true := decide_eq_true c15); (clear c15); ((first | rw [c15b0] | (simp only [i64_w, i32_w]; rw [c15b0]) | skip)); (obtain ⟨ji16, hji16⟩ : ∃ j_ : Int, (wrap64 (x3_1 - 1)) = j_ := ⟨_, rfl⟩); (replace H : (if 0 ≤ (ji16) then (if (ji16) < (l0.length : Int) then ((catchmentref12_Ahead.f ((rd_T46 l0 (ji16)).f0) ((rd_T46 l0 (ji16)).f1) ((rd_T46 l0 (ji16)).f2) ((rd_T46 l0 (ji16)).f3) ((rd_T46 l0 (ji16)).f4) ((rd_T46 l0 (ji16)).f5) ((rd_T46 l0 x3_1).f0) ((rd_T46 l0 x3_1).f1) ((rd_T46 l0 x3_1).f2) ((rd_T46 l0 x3_1).f3) ((rd_T46 l0 x3_1).f4) ((rd_T46 l0 x3_1).f5)).bind fun t119 => (catchmentref12_Right.j2 kj2 l0 x3_1 (!t119))) else (none)) else (none)) = some r := by first | (rw [hji16] at H; exact H) | (simp only [hji16] at H ⊢; exact H)); (have hji16w : (IntKind.i64.wrap (x3_1 - 1)) = ji16 := (i64_w _).trans hji16); (by_cases c17 : 0 ≤ (ji16))
            ·rw [if_pos c17] at H
             (have c17b0 : decide (0 ≤ (ji16)) = true := decide_eq_true c17); (clear c17); (by_cases c18 : (ji16) < (l0.length : Int))
             ·rw [if_pos c18] at H
              (have c18b0 : decide ((ji16) < (l0.length : Int)) = true := decide_eq_true c18); (clear c18); (replace H := Option.bind_eq_some_iff.mp H); (obtain ⟨t119, A190, H⟩ := H); (replace H : (catchmentref12_Right.j2 kj2 l0 x3_1 (!t119)) = some r := H); (have A19 := Aside0.mk A190); (clear A190); (have H' := Aside0.mk H); (clear H); (try go_wp2); (have n0_ := Aside0.mk (below_drew1 HB.out)); (clear HB); (have HB := n0_); (clear n0_); (have p117 : 0 ≤ ((ji16) : Int) := of_decide_eq_true (by first | (with_reducible assumption) | assumption)); (have q117 : (ji16) < (l0.length : Int) := of_decide_eq_true (by first | (with_reducible assumption) | assumption)); (obtain ⟨ad117, e117, hx117_0, hx117_1, hx117_2, hx117_3, hx117_4, hx117_5⟩ := at_T46 HR0.out (ji16) p117 q117); (have hw117_5 := hx117_5); (have hw117_4 := hx117_4); (have hw117_3 := hx117_3); (have hw117_2 := hx117_2); (have hw117_1 := hx117_1); (have hw117_0 := hx117_0); (obtain rfl : ad113 = ad117 := (by injection e117)); (replace hx117_0 := c1_ HB hx117_0); (replace hx117_1 := c1_ HB hx117_1)
              (replace hx117_2 := c1_ HB hx117_2); (replace hx117_3 := c1_ HB hx117_3); (replace hx117_4 := c1_ HB hx117_4); (replace hx117_5 := c1_ HB hx117_5); (replace p117 := eq_true p117); (replace q117 := eq_true q117); (have p118 : 0 ≤ (x3_1 : Int) := of_decide_eq_true (by first | (with_reducible assumption) | assumption)); (have q118 : x3_1 < (l0.length : Int) := of_decide_eq_true (by first | (with_reducible assumption) | assumption)); (obtain ⟨ad118, e118, hx118_0, hx118_1, hx118_2, hx118_3, hx118_4, hx118_5⟩ := at_T46 HR0.out x3_1 p118 q118); (have hw118_5 := hx118_5); (have hw118_4 := hx118_4); (have hw118_3 := hx118_3); (have hw118_2 := hx118_2); (have hw118_1 := hx118_1); (have hw118_0 := hx118_0); (obtain rfl : ad113 = ad118 := (by injection e118)); (replace hx118_0 := c1_ HB hx118_0); (replace hx118_1 := c1_ HB hx118_1)
              (replace hx118_2 := c1_ HB hx118_2); (replace hx118_3 := c1_ HB hx118_3); (replace hx118_4 := c1_ HB hx118_4); (replace hx118_5 := c1_ HB hx118_5); (replace p118 := eq_true p118); (replace q118 := eq_true q118)
              refine start_ (n := 15) (S := fun w' => w'.cell? (ad113.add (((ji16)).toNat * 6)) = some (.int .u8 ((rd_T46 l0 (ji16)).f0)) ∧ w'.cell? ⟨(ad113.add (((ji16)).toNat * 6)).block, (ad113.add (((ji16)).toNat * 6)).off + 1, none⟩ = some (.int .i64 ((rd_T46 l0 (ji16)).f1)) ∧ w'.cell? ⟨(ad113.add (((ji16)).toNat * 6)).block, (ad113.add (((ji16)).toNat * 6)).off + 2, none⟩ = some (.string ((rd_T46 l0 (ji16)).f2)) ∧ w'.cell? ⟨(ad113.add (((ji16)).toNat * 6)).block, (ad113.add (((ji16)).toNat * 6)).off + 3, none⟩ = some (.string ((rd_T46 l0 (ji16)).f3)) ∧ w'.cell? ⟨(ad113.add (((ji16)).toNat * 6)).block, (ad113.add (((ji16)).toNat * 6)).off + 4, none⟩ = some (.string ((rd_T46 l0 (ji16)).f4)) ∧ w'.cell? ⟨(ad113.add (((ji16)).toNat * 6)).block, (ad113.add (((ji16)).toNat * 6)).off + 5, none⟩ = some (.int .u64 ((rd_T46 l0 (ji16)).f5)) ∧ w'.cell? (ad113.add ((x3_1).toNat * 6)) = some (.int .u8 ((rd_T46 l0 x3_1).f0)) ∧ w'.cell? ⟨(ad113.add ((x3_1).toNat * 6)).block, (ad113.add ((x3_1).toNat * 6)).off + 1, none⟩ = some (.int .i64 ((rd_T46 l0 x3_1).f1)) ∧ w'.cell? ⟨(ad113.add ((x3_1).toNat * 6)).block, (ad113.add ((x3_1).toNat * 6)).off + 2, none⟩ = some (.string ((rd_T46 l0 x3_1).f2)) ∧ w'.cell? ⟨(ad113.add ((x3_1).toNat * 6)).block, (ad113.add ((x3_1).toNat * 6)).off + 3, none⟩ = some (.string ((rd_T46 l0 x3_1).f3)) ∧ w'.cell? ⟨(ad113.add ((x3_1).toNat * 6)).block, (ad113.add ((x3_1).toNat * 6)).off + 4, none⟩ = some (.string ((rd_T46 l0 x3_1).f4)) ∧ w'.cell? ⟨(ad113.add ((x3_1).toNat * 6)).block, (ad113.add ((x3_1).toNat * 6)).off + 5, none⟩ = some (.int .u64 ((rd_T46 l0 x3_1).f5))) (ds := []) #[false, false, false, false, false, false, false, false, false, false, false, false, false, false, false] (by kernel_rfl) rfl rfl ⟨(c1_ HB hw117_0), (c1_ HB hw117_1), (c1_ HB hw117_2), (c1_ HB hw117_3), (c1_ HB hw117_4), (c1_ HB hw117_5), (c1_ HB hw118_0), (c1_ HB hw118_1), (c1_ HB hw118_2), (c1_ HB hw118_3), (c1_ HB hw118_4), (c1_ HB hw118_5)⟩ (fun hHeld => ?_); refine with_tabW catchmentref12_Right.tab8 catchmentref12_Right.bits8 (fun HT_ HW_ => ?_)
              (generalize w14.drew = w20 at HB hx117_0 hx117_1 hx117_2 hx117_3 hx117_4 hx117_5 hx118_0 hx118_1 hx118_2 hx118_3 hx118_4 hx118_5 hHeld ⊢); (refine pv_ 0 33 HT_.out ?_)
              refine pv_ 1 34 HT_.out ?_
              refine pv_ 2 35 HT_.out ?_
              refine pv_ 3 36 HT_.out ?_
              refine pv_ 4 37 HT_.out ?_
              refine pv_ 5 38 HT_.out ?_
              refine pv_ 6 39 HT_.out ?_
              refine pv_ 8 41 HT_.out ?_
              refine pv_ 9 42 HT_.out ?_
              refine pv_ 10 43 HT_.out ?_
              refine tv_ 7 40 HT_.out HW_.out rfl hHeld (q9_1) ?_
              refine tv_ 11 44 HT_.out HW_.out rfl hHeld (q9_1) ?_
              (refine one_ (i := 12) (N := some 45) #[true, true, true, true, true, true, true, true, true, true, true, true, true, false, false] rfl rfl (one_of HT_.out (by kernel_rfl)) (by decide) (fun K hK => ?_)); (refine goes_ Try.func30 (by kernel_rfl) rfl #[.agg #[.int .u8 ((rd_T46 l0 (ji16)).f0), .int .i64 ((rd_T46 l0 (ji16)).f1), .string ((rd_T46 l0 (ji16)).f2), .string ((rd_T46 l0 (ji16)).f3), .string ((rd_T46 l0 (ji16)).f4), .int .u64 ((rd_T46 l0 (ji16)).f5)], .agg #[.int .u8 ((rd_T46 l0 x3_1).f0), .int .i64 ((rd_T46 l0 x3_1).f1), .string ((rd_T46 l0 x3_1).f2), .string ((rd_T46 l0 x3_1).f3), .string ((rd_T46 l0 x3_1).f4), .int .u64 ((rd_T46 l0 x3_1).f5)]] (by rfl) rfl rfl (by (try simp only [List.map_toArray, List.map_cons, List.map_nil]); first | done | (simp only [hji16]; rfl) | rfl | (simp only [List.length_drop, List.length_take]; rfl)) ?_)
              (with_reducible refine (catchmentref12_Ahead.calls ((rd_T46 l0 (ji16)).f0) ((rd_T46 l0 (ji16)).f1) ((rd_T46 l0 (ji16)).f2) ((rd_T46 l0 (ji16)).f3) ((rd_T46 l0 (ji16)).f4) ((rd_T46 l0 (ji16)).f5) ((rd_T46 l0 x3_1).f0) ((rd_T46 l0 x3_1).f1) ((rd_T46 l0 x3_1).f2) ((rd_T46 l0 x3_1).f3) ((rd_T46 l0 x3_1).f4) ((rd_T46 l0 x3_1).f5) t119 _ A19.out).mono ?_); (rintro e w21 ⟨rfl, hb⟩); (refine ⟨_, rfl, ?_⟩); (have n0_ := Aside0.mk (below_step (q9_0) hb)); (clear HB); (have HB := n0_); (clear n0_); ((try clear hb)); ((try clear hb2)); ((try clear hk)); ((try clear hi))
              (refine hK.out _ _ ⟨(c1_ HB hw117_0), (c1_ HB hw117_1), (c1_ HB hw117_2), (c1_ HB hw117_3), (c1_ HB hw117_4), (c1_ HB hw117_5), (c1_ HB hw118_0), (c1_ HB hw118_1), (c1_ HB hw118_2), (c1_ HB hw118_3), (c1_ HB hw118_4), (c1_ HB hw118_5)⟩ (fun hHeld => ?_)); (clear hK K); (refine norm_ (a' := ?_) ?_ ?_)
              rotate_left
              ·show Act.put _ (some 45) _ = _
               (simp only [pt_, pn_, sz_, ss_, i64_w, i32_w]); (rfl)
              refine pv_ 13 46 HT_.out ?_
              refine pv_ 14 47 HT_.out ?_
              (refine done_ (done_of HT_.out (by kernel_rfl)) ?_); (try go_wp2); (go_meet)
              case rel => exact ⟨_, (!t119), (by first | rfl | (simp; done) | (simp [*]; done)), H', ⟨by have := HK1.out; have := HJ2.out; first | omega | exact Nat.le_refl _⟩, ⟨q9_0⟩⟩
             ·rw [if_neg c18] at H
              exact absurd H (by simp)
            ·rw [if_neg c17] at H
             exact absurd H (by simp)
           ·rw [if_neg c15] at H
            (have c15b0 : decide (0 < x3_1) = false := decide_eq_false c15); (clear c15); ((first | rw [c15b0] | (simp only [i64_w, i32_w]; rw [c15b0]) | skip)); (have H' := Aside0.mk H); (clear H); (try go_wp2); (have n0_ := Aside0.mk (below_drew1 HB.out)); (clear HB); (have HB := n0_); (clear n0_); (refine start_ (n := 15) (S := fun w' => True) (ds := []) #[false, false, false, false, false, false, false, false, false, false, false, false, false, false, false] (by kernel_rfl) rfl rfl trivial (fun hHeld => ?_); refine with_tabW catchmentref12_Right.tab8 catchmentref12_Right.bits8 (fun HT_ HW_ => ?_)); (generalize w14.drew = w22 at HB hHeld ⊢); (refine pv_ 0 33 HT_.out ?_)
            refine pv_ 1 34 HT_.out ?_
            refine pv_ 2 35 HT_.out ?_
            refine pw_ 3 36 HT_.out ?_
            refine pw_ 4 37 HT_.out ?_
            refine pw_ 5 38 HT_.out ?_
            refine pw_ 6 39 HT_.out ?_
            refine pw_ 7 40 HT_.out ?_
            refine pw_ 8 41 HT_.out ?_
            refine pw_ 9 42 HT_.out ?_
            refine pw_ 10 43 HT_.out ?_
            refine pw_ 11 44 HT_.out ?_
            refine pw_ 12 45 HT_.out ?_
            refine pw_ 13 46 HT_.out ?_
            refine pv_ 14 47 HT_.out ?_
            (refine done_ (done_of HT_.out (by kernel_rfl)) ?_); (try go_wp2); (go_meet)
            case rel => exact ⟨_, (false), (by first | rfl | (simp; done) | (simp [*]; done)), H', ⟨by have := HK1.out; have := HJ2.out; first | omega | exact Nat.le_refl _⟩, ⟨q9_0⟩⟩
          case rest =>
           (clear HC12); (try clear c1); (try clear p1); (try clear q1); (try clear hx1); (try clear c2); (try clear c2b0); (try clear p2); (try clear c3); (try clear c4); (try clear c4b0); (try clear c5); (try clear c5b0); (try clear c6); (try clear p6); (try clear c7); (try clear c7b0); (try clear c8); (try clear c8b0); (try clear c11); (try clear p11); (try clear q11); (try clear hx11); (try clear c15); (try clear c15b0); (try clear c17); (try clear c17b0); (try clear c18); (try clear c18b0); (try clear hx111_0); (try clear hx111_1); (try clear hx111_2); (try clear hx111_3); (try clear hx111_4); (try clear hx111_5); (try clear hx112_0); (try clear hx112_1); (try clear hx112_2); (try clear hx112_3); (try clear hx112_4); (try clear hx112_5); (try clear hx113_0); (try clear hx113_1); (try clear hx113_2); (try clear hx113_3); (try clear hx113_4); (try clear hx113_5); (try clear hx117_0); (try clear hx117_1); (try clear hx117_2); (try clear hx117_3); (try clear hx117_4); (try clear hx117_5); (try clear hx118_0); (try clear hx118_1); (try clear hx118_2); (try clear hx118_3); (try clear hx118_4); (try clear hx118_5); (try clear p1); (try clear p111); (try clear p112); (try clear p113)
           (try clear p117); (try clear p118); (try clear p2); (try clear q1); (try clear q111); (try clear q112); (try clear q113); (try clear q117); (try clear q118); (obtain ⟨kq, x47_11, rfl, HA, HJ11, HB⟩ := hcut)
           cases kq with
           | zero => exact absurd HA.out (by simp [catchmentref12_Right.j2])
           | succ kj11 =>
            (have H := HA.out); (clear HA); (simp only [catchmentref12_Right.j2] at H); (by_cases c23 : x47_11 = true)
            ·subst c23
             (have H1 : (some false) = some r := by rw [if_pos rfl] at H; exact H); (clear H); (have H := H1); (clear H1); (obtain rfl := Option.some.inj H); (go_wp2); (go_ret); (exact ⟨by first | rfl | (simp [*, errW_none, errW_some] <;> rfl), q9_0⟩)
            ·replace c23 := Bool.eq_false_iff.mpr c23
             (subst c23); (have H1 : (if x3_1 > 0 then (if 0 ≤ (wrap64 (x3_1 - 1)) then (if (wrap64 (x3_1 - 1)) < (l0.length : Int) then (if 0 ≤ x3_1 then (if x3_1 < (l0.length : Int) then (catchmentref12_Right.j3 kj11 l0 x3_1 (((rd_T46 l0 (wrap64 (x3_1 - 1))).f1) == ((rd_T46 l0 x3_1).f1))) else (none)) else (none)) else (none)) else (none)) else (catchmentref12_Right.j3 kj11 l0 x3_1 false)) = some r := by rw [if_neg (show ¬ (false = true) by decide)] at H; exact H); (clear H); (have H := H1); (clear H1); (have HC24 := Aside0.mk H); (clear H); (go_upto_region 10 with (fail)); (go_cut [63] (fun v63 wc => ∃ (kq : Nat) (x63_23 : Bool), v63 = .bool x63_23 ∧ Aside0 (catchmentref12_Right.j3 kq l0 x3_1 x63_23 = some r) ∧ Aside0 (kq ≤ kj11) ∧ Aside0 (Below w.heap.size w wc)))
             case first =>
              (have H := HC24.out); (clear HC24); (by_cases c25 : x3_1 > 0)
              ·rw [if_pos c25] at H
               (have c25b0 : decide (0 < x3_1) = true := decide_eq_true c25); (clear c25); ((first | rw [c25b0] | (simp only [i64_w, i32_w]; rw [c25b0]) | skip)); (obtain ⟨ji26, hji26⟩ : ∃ j_ : Int, (wrap64 (x3_1 - 1)) = j_ := ⟨_, rfl⟩); (replace H : (if 0 ≤ (ji26) then (if (ji26) < (l0.length : Int) then (if 0 ≤ x3_1 then (if x3_1 < (l0.length : Int) then (catchmentref12_Right.j3 kj11 l0 x3_1 (((rd_T46 l0 (ji26)).f1) == ((rd_T46 l0 x3_1).f1))) else (none)) else (none)) else (none)) else (none)) = some r := by first | (rw [hji26] at H; exact H) | (simp only [hji26] at H ⊢; exact H)); (have hji26w : (IntKind.i64.wrap (x3_1 - 1)) = ji26 := (i64_w _).trans hji26); (by_cases c27 : 0 ≤ (ji26))
               ·rw [if_pos c27] at H
                (have c27b0 : decide (0 ≤ (ji26)) = true := decide_eq_true c27); (clear c27); (by_cases c28 : (ji26) < (l0.length : Int))
                ·rw [if_pos c28] at H
                 (have c28b0 : decide ((ji26) < (l0.length : Int)) = true := decide_eq_true c28); (clear c28); (by_cases c29 : 0 ≤ x3_1)
                 ·rw [if_pos c29] at H
                  (have c29b0 : decide (0 ≤ x3_1) = true := decide_eq_true c29); (clear c29); (by_cases c30 : x3_1 < (l0.length : Int))
                  ·rw [if_pos c30] at H
                   (have c30b0 : decide (x3_1 < (l0.length : Int)) = true := decide_eq_true c30); (clear c30); (have H' := Aside0.mk H); (clear H); (try go_wp2); (have n0_ := Aside0.mk (below_drew1 HB.out)); (clear HB); (have HB := n0_); (clear n0_); (have p120 : 0 ≤ ((ji26) : Int) := of_decide_eq_true (by first | (with_reducible assumption) | assumption)); (have q120 : (ji26) < (l0.length : Int) := of_decide_eq_true (by first | (with_reducible assumption) | assumption)); (obtain ⟨ad120, e120, hx120_0, hx120_1, hx120_2, hx120_3, hx120_4, hx120_5⟩ := at_T46 HR0.out (ji26) p120 q120); (have hw120_5 := hx120_5); (have hw120_4 := hx120_4); (have hw120_3 := hx120_3); (have hw120_2 := hx120_2); (have hw120_1 := hx120_1); (have hw120_0 := hx120_0); (obtain rfl : ad113 = ad120 := (by injection e120)); (replace hx120_0 := c1_ HB hx120_0); (replace hx120_1 := c1_ HB hx120_1); (replace hx120_2 := c1_ HB hx120_2); (replace hx120_3 := c1_ HB hx120_3)
                   (replace hx120_4 := c1_ HB hx120_4); (replace hx120_5 := c1_ HB hx120_5); (replace p120 := eq_true p120); (replace q120 := eq_true q120); (have p121 : 0 ≤ (x3_1 : Int) := of_decide_eq_true (by first | (with_reducible assumption) | assumption)); (have q121 : x3_1 < (l0.length : Int) := of_decide_eq_true (by first | (with_reducible assumption) | assumption)); (obtain ⟨ad121, e121, hx121_0, hx121_1, hx121_2, hx121_3, hx121_4, hx121_5⟩ := at_T46 HR0.out x3_1 p121 q121); (have hw121_5 := hx121_5); (have hw121_4 := hx121_4); (have hw121_3 := hx121_3); (have hw121_2 := hx121_2); (have hw121_1 := hx121_1); (have hw121_0 := hx121_0); (obtain rfl : ad113 = ad121 := (by injection e121)); (replace hx121_0 := c1_ HB hx121_0); (replace hx121_1 := c1_ HB hx121_1); (replace hx121_2 := c1_ HB hx121_2); (replace hx121_3 := c1_ HB hx121_3)
                   (replace hx121_4 := c1_ HB hx121_4); (replace hx121_5 := c1_ HB hx121_5); (replace p121 := eq_true p121); (replace q121 := eq_true q121)
                   refine start_ (n := 16) (S := fun w' => w'.cell? (ad113.add (((ji26)).toNat * 6)) = some (.int .u8 ((rd_T46 l0 (ji26)).f0)) ∧ w'.cell? ⟨(ad113.add (((ji26)).toNat * 6)).block, (ad113.add (((ji26)).toNat * 6)).off + 1, none⟩ = some (.int .i64 ((rd_T46 l0 (ji26)).f1)) ∧ w'.cell? ⟨(ad113.add (((ji26)).toNat * 6)).block, (ad113.add (((ji26)).toNat * 6)).off + 2, none⟩ = some (.string ((rd_T46 l0 (ji26)).f2)) ∧ w'.cell? ⟨(ad113.add (((ji26)).toNat * 6)).block, (ad113.add (((ji26)).toNat * 6)).off + 3, none⟩ = some (.string ((rd_T46 l0 (ji26)).f3)) ∧ w'.cell? ⟨(ad113.add (((ji26)).toNat * 6)).block, (ad113.add (((ji26)).toNat * 6)).off + 4, none⟩ = some (.string ((rd_T46 l0 (ji26)).f4)) ∧ w'.cell? ⟨(ad113.add (((ji26)).toNat * 6)).block, (ad113.add (((ji26)).toNat * 6)).off + 5, none⟩ = some (.int .u64 ((rd_T46 l0 (ji26)).f5)) ∧ w'.cell? (ad113.add ((x3_1).toNat * 6)) = some (.int .u8 ((rd_T46 l0 x3_1).f0)) ∧ w'.cell? ⟨(ad113.add ((x3_1).toNat * 6)).block, (ad113.add ((x3_1).toNat * 6)).off + 1, none⟩ = some (.int .i64 ((rd_T46 l0 x3_1).f1)) ∧ w'.cell? ⟨(ad113.add ((x3_1).toNat * 6)).block, (ad113.add ((x3_1).toNat * 6)).off + 2, none⟩ = some (.string ((rd_T46 l0 x3_1).f2)) ∧ w'.cell? ⟨(ad113.add ((x3_1).toNat * 6)).block, (ad113.add ((x3_1).toNat * 6)).off + 3, none⟩ = some (.string ((rd_T46 l0 x3_1).f3)) ∧ w'.cell? ⟨(ad113.add ((x3_1).toNat * 6)).block, (ad113.add ((x3_1).toNat * 6)).off + 4, none⟩ = some (.string ((rd_T46 l0 x3_1).f4)) ∧ w'.cell? ⟨(ad113.add ((x3_1).toNat * 6)).block, (ad113.add ((x3_1).toNat * 6)).off + 5, none⟩ = some (.int .u64 ((rd_T46 l0 x3_1).f5))) (ds := []) #[false, false, false, false, false, false, false, false, false, false, false, false, false, false, false, false] (by kernel_rfl) rfl rfl ⟨(c1_ HB hw120_0), (c1_ HB hw120_1), (c1_ HB hw120_2), (c1_ HB hw120_3), (c1_ HB hw120_4), (c1_ HB hw120_5), (c1_ HB hw121_0), (c1_ HB hw121_1), (c1_ HB hw121_2), (c1_ HB hw121_3), (c1_ HB hw121_4), (c1_ HB hw121_5)⟩ (fun hHeld => ?_); refine with_tabW catchmentref12_Right.tab10 catchmentref12_Right.bits10 (fun HT_ HW_ => ?_)
                   (generalize wc.drew = w31 at HB hx120_0 hx120_1 hx120_2 hx120_3 hx120_4 hx120_5 hx121_0 hx121_1 hx121_2 hx121_3 hx121_4 hx121_5 hHeld ⊢); (refine pv_ 0 48 HT_.out ?_)
                   refine pv_ 1 49 HT_.out ?_
                   refine pv_ 2 50 HT_.out ?_
                   refine pv_ 3 51 HT_.out ?_
                   refine pv_ 4 52 HT_.out ?_
                   refine pv_ 5 53 HT_.out ?_
                   refine pv_ 6 54 HT_.out ?_
                   refine pv_ 7 55 HT_.out ?_
                   refine pv_ 9 57 HT_.out ?_
                   refine pv_ 10 58 HT_.out ?_
                   refine pv_ 11 59 HT_.out ?_
                   refine pv_ 12 60 HT_.out ?_
                   refine tv_ 8 56 HT_.out HW_.out rfl hHeld (q9_1) ?_
                   refine tv_ 13 61 HT_.out HW_.out rfl hHeld (q9_1) ?_
                   refine pv_ 14 62 HT_.out ?_
                   refine pv_ 15 63 HT_.out ?_
                   (refine done_ (done_of HT_.out (by kernel_rfl)) ?_); (try go_wp2); (go_meet)
                   case rel => exact ⟨_, ((((rd_T46 l0 (ji26)).f1) == ((rd_T46 l0 x3_1).f1))), (by first | rfl | (simp; done) | (simp only [← hji26] <;> (first | rfl | simp)) | (simp [*]; done)), H', ⟨by have := HK1.out; have := HJ2.out; have := HJ11.out; first | omega | exact Nat.le_refl _⟩, ⟨q9_0⟩⟩
                  ·rw [if_neg c30] at H
                   exact absurd H (by simp)
                 ·rw [if_neg c29] at H
                  exact absurd H (by simp)
                ·rw [if_neg c28] at H
                 exact absurd H (by simp)
               ·rw [if_neg c27] at H
                exact absurd H (by simp)
              ·rw [if_neg c25] at H
               (have c25b0 : decide (0 < x3_1) = false := decide_eq_false c25); (clear c25); ((first | rw [c25b0] | (simp only [i64_w, i32_w]; rw [c25b0]) | skip)); (have H' := Aside0.mk H); (clear H); (try go_wp2); (have n0_ := Aside0.mk (below_drew1 HB.out)); (clear HB); (have HB := n0_); (clear n0_); (refine start_ (n := 16) (S := fun w' => True) (ds := []) #[false, false, false, false, false, false, false, false, false, false, false, false, false, false, false, false] (by kernel_rfl) rfl rfl trivial (fun hHeld => ?_); refine with_tabW catchmentref12_Right.tab10 catchmentref12_Right.bits10 (fun HT_ HW_ => ?_)); (generalize wc.drew = w32 at HB hHeld ⊢); (refine pv_ 0 48 HT_.out ?_)
               refine pv_ 1 49 HT_.out ?_
               refine pv_ 2 50 HT_.out ?_
               refine pw_ 3 51 HT_.out ?_
               refine pw_ 4 52 HT_.out ?_
               refine pw_ 5 53 HT_.out ?_
               refine pw_ 6 54 HT_.out ?_
               refine pw_ 7 55 HT_.out ?_
               refine pw_ 8 56 HT_.out ?_
               refine pw_ 9 57 HT_.out ?_
               refine pw_ 10 58 HT_.out ?_
               refine pw_ 11 59 HT_.out ?_
               refine pw_ 12 60 HT_.out ?_
               refine pw_ 13 61 HT_.out ?_
               refine pw_ 14 62 HT_.out ?_
               refine pv_ 15 63 HT_.out ?_
               (refine done_ (done_of HT_.out (by kernel_rfl)) ?_); (try go_wp2); (go_meet)
               case rel => exact ⟨_, (false), (by first | rfl | (simp; done) | (simp [*]; done)), H', ⟨by have := HK1.out; have := HJ2.out; have := HJ11.out; first | omega | exact Nat.le_refl _⟩, ⟨q9_0⟩⟩
             case rest =>
              (clear HC24); (try clear c1); (try clear p1); (try clear q1); (try clear hx1); (try clear c2); (try clear c2b0); (try clear p2); (try clear c3); (try clear c4); (try clear c4b0); (try clear c5); (try clear c5b0); (try clear c6); (try clear p6); (try clear c7); (try clear c7b0); (try clear c8); (try clear c8b0); (try clear c11); (try clear p11); (try clear q11); (try clear hx11); (try clear p12); (try clear q12); (try clear hx12); (try clear c15); (try clear c15b0); (try clear c17); (try clear c17b0); (try clear c18); (try clear c18b0); (try clear c23); (try clear c25); (try clear c25b0); (try clear c27); (try clear c27b0); (try clear c28); (try clear c28b0); (try clear c29); (try clear c29b0); (try clear c30); (try clear c30b0); (try clear hx111_0); (try clear hx111_1); (try clear hx111_2); (try clear hx111_3); (try clear hx111_4); (try clear hx111_5); (try clear hx112_0); (try clear hx112_1); (try clear hx112_2); (try clear hx112_3); (try clear hx112_4); (try clear hx112_5); (try clear hx113_0); (try clear hx113_1); (try clear hx113_2); (try clear hx113_3); (try clear hx113_4); (try clear hx113_5); (try clear hx117_0); (try clear hx117_1); (try clear hx117_2); (try clear hx117_3)
              (try clear hx117_4); (try clear hx117_5); (try clear hx118_0); (try clear hx118_1); (try clear hx118_2); (try clear hx118_3); (try clear hx118_4); (try clear hx118_5); (try clear hx120_0); (try clear hx120_1); (try clear hx120_2); (try clear hx120_3); (try clear hx120_4); (try clear hx120_5); (try clear hx121_0); (try clear hx121_1); (try clear hx121_2); (try clear hx121_3); (try clear hx121_4); (try clear hx121_5); (try clear p1); (try clear p11); (try clear p111); (try clear p112); (try clear p113); (try clear p117); (try clear p118); (try clear p120); (try clear p121); (try clear p2); (try clear p6); (try clear q1); (try clear q11); (try clear q111); (try clear q112); (try clear q113); (try clear q117); (try clear q118); (try clear q120); (try clear q121); (obtain ⟨kq, x63_23, rfl, HA, HJ23, HB⟩ := hcut)
              cases kq with
              | zero => exact absurd HA.out (by simp [catchmentref12_Right.j3])
              | succ kj23 =>
               (have H := HA.out); (clear HA); (simp only [catchmentref12_Right.j3] at H); (by_cases c33 : x63_23 = true)
               ·subst c33
                (have H1 : (if 0 ≤ (wrap64 (x3_1 - 1)) then (if (wrap64 (x3_1 - 1)) < (l0.length : Int) then ((catchmentref04_Span.f ((rd_T46 l0 (wrap64 (x3_1 - 1))).f0) ((rd_T46 l0 (wrap64 (x3_1 - 1))).f1) ((rd_T46 l0 (wrap64 (x3_1 - 1))).f2) ((rd_T46 l0 (wrap64 (x3_1 - 1))).f3) ((rd_T46 l0 (wrap64 (x3_1 - 1))).f4) ((rd_T46 l0 (wrap64 (x3_1 - 1))).f5)).bind fun bt123 => (if 0 ≤ x3_1 then (if x3_1 < (l0.length : Int) then ((catchmentref04_Span.f ((rd_T46 l0 x3_1).f0) ((rd_T46 l0 x3_1).f1) ((rd_T46 l0 x3_1).f2) ((rd_T46 l0 x3_1).f3) ((rd_T46 l0 x3_1).f4) ((rd_T46 l0 x3_1).f5)).bind fun bt126 => ((catchmentref02_Meet.f bt123.1 bt123.2 bt126.1 bt126.2).bind fun bt128 => (if bt128.2.2 = true then (some false) else (catchmentref12_Right.l0 kj23 l0 (wrap64 (x3_1 + 1)))))) else (none)) else (none))) else (none)) else (none)) = some r := by rw [if_pos rfl] at H; exact H); (clear H); (have H := H1); (clear H1); (obtain ⟨ji34, hji34⟩ : ∃ j_ : Int, (wrap64 (x3_1 - 1)) = j_ := ⟨_, rfl⟩)
                (replace H : (if 0 ≤ (ji34) then (if (ji34) < (l0.length : Int) then ((catchmentref04_Span.f ((rd_T46 l0 (ji34)).f0) ((rd_T46 l0 (ji34)).f1) ((rd_T46 l0 (ji34)).f2) ((rd_T46 l0 (ji34)).f3) ((rd_T46 l0 (ji34)).f4) ((rd_T46 l0 (ji34)).f5)).bind fun bt123 => (if 0 ≤ x3_1 then (if x3_1 < (l0.length : Int) then ((catchmentref04_Span.f ((rd_T46 l0 x3_1).f0) ((rd_T46 l0 x3_1).f1) ((rd_T46 l0 x3_1).f2) ((rd_T46 l0 x3_1).f3) ((rd_T46 l0 x3_1).f4) ((rd_T46 l0 x3_1).f5)).bind fun bt126 => ((catchmentref02_Meet.f bt123.1 bt123.2 bt126.1 bt126.2).bind fun bt128 => (if bt128.2.2 = true then (some false) else (catchmentref12_Right.l0 kj23 l0 (wrap64 (x3_1 + 1)))))) else (none)) else (none))) else (none)) else (none)) = some r := by first | (rw [hji34] at H; exact H) | (simp only [hji34] at H ⊢; exact H)); (have hji34w : (IntKind.i64.wrap (x3_1 - 1)) = ji34 := (i64_w _).trans hji34); (by_cases c35 : 0 ≤ (ji34))
                ·rw [if_pos c35] at H
                 (have c35b0 : decide (0 ≤ (ji34)) = true := decide_eq_true c35); (clear c35); (by_cases c36 : (ji34) < (l0.length : Int))
                 ·rw [if_pos c36] at H
                  (have c36b0 : decide ((ji34) < (l0.length : Int)) = true := decide_eq_true c36); (clear c36); (replace H := Option.bind_eq_some_iff.mp H); (obtain ⟨⟨t123, t124⟩, A370, H⟩ := H); (replace H : (if 0 ≤ x3_1 then (if x3_1 < (l0.length : Int) then ((catchmentref04_Span.f ((rd_T46 l0 x3_1).f0) ((rd_T46 l0 x3_1).f1) ((rd_T46 l0 x3_1).f2) ((rd_T46 l0 x3_1).f3) ((rd_T46 l0 x3_1).f4) ((rd_T46 l0 x3_1).f5)).bind fun bt126 => ((catchmentref02_Meet.f t123 t124 bt126.1 bt126.2).bind fun bt128 => (if bt128.2.2 = true then (some false) else (catchmentref12_Right.l0 kj23 l0 (wrap64 (x3_1 + 1)))))) else (none)) else (none)) = some r := H); (have A37 := Aside0.mk A370); (clear A370); (by_cases c38 : 0 ≤ x3_1)
                  ·rw [if_pos c38] at H
                   (have c38b0 : decide (0 ≤ x3_1) = true := decide_eq_true c38); (clear c38); (by_cases c39 : x3_1 < (l0.length : Int))
                   ·rw [if_pos c39] at H
                    (have c39b0 : decide (x3_1 < (l0.length : Int)) = true := decide_eq_true c39); (clear c39); (replace H := Option.bind_eq_some_iff.mp H); (obtain ⟨⟨t126, t127⟩, A400, H⟩ := H); (replace H : ((catchmentref02_Meet.f t123 t124 t126 t127).bind fun bt128 => (if bt128.2.2 = true then (some false) else (catchmentref12_Right.l0 kj23 l0 (wrap64 (x3_1 + 1))))) = some r := H); (have A40 := Aside0.mk A400); (clear A400); (replace H := Option.bind_eq_some_iff.mp H); (obtain ⟨⟨t128, t129, t130⟩, A410, H⟩ := H); (replace H : (if t130 = true then (some false) else (catchmentref12_Right.l0 kj23 l0 (wrap64 (x3_1 + 1)))) = some r := H); (have A41 := Aside0.mk A410); (clear A410); (by_cases c42 : t130 = true)
                    ·subst c42
                     (have H1 : (some false) = some r := by rw [if_pos rfl] at H; exact H); (clear H); (have H := H1); (clear H1); (obtain rfl := Option.some.inj H); (try go_wp2); (have n0_ := Aside0.mk (below_drew1 HB.out)); (clear HB); (have HB := n0_); (clear n0_); (have p122 : 0 ≤ ((ji34) : Int) := of_decide_eq_true (by first | (with_reducible assumption) | assumption)); (have q122 : (ji34) < (l0.length : Int) := of_decide_eq_true (by first | (with_reducible assumption) | assumption)); (obtain ⟨ad122, e122, hx122_0, hx122_1, hx122_2, hx122_3, hx122_4, hx122_5⟩ := at_T46 HR0.out (ji34) p122 q122); (have hw122_5 := hx122_5); (have hw122_4 := hx122_4); (have hw122_3 := hx122_3); (have hw122_2 := hx122_2); (have hw122_1 := hx122_1); (have hw122_0 := hx122_0); (obtain rfl : ad113 = ad122 := (by injection e122)); (replace hx122_0 := c1_ HB hx122_0); (replace hx122_1 := c1_ HB hx122_1); (replace hx122_2 := c1_ HB hx122_2); (replace hx122_3 := c1_ HB hx122_3)
                     (replace hx122_4 := c1_ HB hx122_4); (replace hx122_5 := c1_ HB hx122_5); (replace p122 := eq_true p122); (replace q122 := eq_true q122); (have p125 : 0 ≤ (x3_1 : Int) := of_decide_eq_true (by first | (with_reducible assumption) | assumption)); (have q125 : x3_1 < (l0.length : Int) := of_decide_eq_true (by first | (with_reducible assumption) | assumption)); (obtain ⟨ad125, e125, hx125_0, hx125_1, hx125_2, hx125_3, hx125_4, hx125_5⟩ := at_T46 HR0.out x3_1 p125 q125); (have hw125_5 := hx125_5); (have hw125_4 := hx125_4); (have hw125_3 := hx125_3); (have hw125_2 := hx125_2); (have hw125_1 := hx125_1); (have hw125_0 := hx125_0); (obtain rfl : ad113 = ad125 := (by injection e125)); (replace hx125_0 := c1_ HB hx125_0); (replace hx125_1 := c1_ HB hx125_1); (replace hx125_2 := c1_ HB hx125_2); (replace hx125_3 := c1_ HB hx125_3)
                     (replace hx125_4 := c1_ HB hx125_4); (replace hx125_5 := c1_ HB hx125_5); (replace p125 := eq_true p125); (replace q125 := eq_true q125)
                     refine start_ (n := 18) (S := fun w' => w'.cell? (ad113.add (((ji34)).toNat * 6)) = some (.int .u8 ((rd_T46 l0 (ji34)).f0)) ∧ w'.cell? ⟨(ad113.add (((ji34)).toNat * 6)).block, (ad113.add (((ji34)).toNat * 6)).off + 1, none⟩ = some (.int .i64 ((rd_T46 l0 (ji34)).f1)) ∧ w'.cell? ⟨(ad113.add (((ji34)).toNat * 6)).block, (ad113.add (((ji34)).toNat * 6)).off + 2, none⟩ = some (.string ((rd_T46 l0 (ji34)).f2)) ∧ w'.cell? ⟨(ad113.add (((ji34)).toNat * 6)).block, (ad113.add (((ji34)).toNat * 6)).off + 3, none⟩ = some (.string ((rd_T46 l0 (ji34)).f3)) ∧ w'.cell? ⟨(ad113.add (((ji34)).toNat * 6)).block, (ad113.add (((ji34)).toNat * 6)).off + 4, none⟩ = some (.string ((rd_T46 l0 (ji34)).f4)) ∧ w'.cell? ⟨(ad113.add (((ji34)).toNat * 6)).block, (ad113.add (((ji34)).toNat * 6)).off + 5, none⟩ = some (.int .u64 ((rd_T46 l0 (ji34)).f5)) ∧ w'.cell? (ad113.add ((x3_1).toNat * 6)) = some (.int .u8 ((rd_T46 l0 x3_1).f0)) ∧ w'.cell? ⟨(ad113.add ((x3_1).toNat * 6)).block, (ad113.add ((x3_1).toNat * 6)).off + 1, none⟩ = some (.int .i64 ((rd_T46 l0 x3_1).f1)) ∧ w'.cell? ⟨(ad113.add ((x3_1).toNat * 6)).block, (ad113.add ((x3_1).toNat * 6)).off + 2, none⟩ = some (.string ((rd_T46 l0 x3_1).f2)) ∧ w'.cell? ⟨(ad113.add ((x3_1).toNat * 6)).block, (ad113.add ((x3_1).toNat * 6)).off + 3, none⟩ = some (.string ((rd_T46 l0 x3_1).f3)) ∧ w'.cell? ⟨(ad113.add ((x3_1).toNat * 6)).block, (ad113.add ((x3_1).toNat * 6)).off + 4, none⟩ = some (.string ((rd_T46 l0 x3_1).f4)) ∧ w'.cell? ⟨(ad113.add ((x3_1).toNat * 6)).block, (ad113.add ((x3_1).toNat * 6)).off + 5, none⟩ = some (.int .u64 ((rd_T46 l0 x3_1).f5))) (ds := []) #[false, false, false, false, false, false, false, false, false, false, false, false, false, false, false, false, false, false] (by kernel_rfl) rfl rfl ⟨(c1_ HB hw122_0), (c1_ HB hw122_1), (c1_ HB hw122_2), (c1_ HB hw122_3), (c1_ HB hw122_4), (c1_ HB hw122_5), (c1_ HB hw125_0), (c1_ HB hw125_1), (c1_ HB hw125_2), (c1_ HB hw125_3), (c1_ HB hw125_4), (c1_ HB hw125_5)⟩ (fun hHeld => ?_); refine with_tabW catchmentref12_Right.tab11 catchmentref12_Right.bits11 (fun HT_ HW_ => ?_)
                     (generalize wc.drew = w43 at HB hx122_0 hx122_1 hx122_2 hx122_3 hx122_4 hx122_5 hx125_0 hx125_1 hx125_2 hx125_3 hx125_4 hx125_5 hHeld ⊢); (refine puA_ (i := 0) (N := some 65) (v := ?_) (a' := ?_) #[true, false, false, false, false, false, false, false, false, false, false, false, false, false, false, false, false, false] HT_.out rfl rfl (.inl ⟨by rfl, ?_⟩) ?_ ?_; rotate_left)
                     ·intro w'; go_simp; with_reducible rfl
                     rotate_left
                     ·simp only [pt_, pn_, sz_, ss_, i64_w, i32_w]; rfl
                     refine puA_ (i := 1) (N := some 66) (v := ?_) (a' := ?_) #[true, true, false, false, false, false, false, false, false, false, false, false, false, false, false, false, false, false] HT_.out rfl rfl (.inl ⟨by rfl, ?_⟩) ?_ ?_; rotate_left
                     ·intro w'; go_simp; with_reducible rfl
                     rotate_left
                     ·simp only [pt_, pn_, sz_, ss_, i64_w, i32_w]; rfl
                     refine puA_ (i := 2) (N := some 67) (v := ?_) (a' := ?_) #[true, true, true, false, false, false, false, false, false, false, false, false, false, false, false, false, false, false] HT_.out rfl rfl (.inl ⟨by rfl, ?_⟩) ?_ ?_; rotate_left
                     ·intro w'; go_simp; with_reducible rfl
                     rotate_left
                     ·simp only [pt_, pn_, sz_, ss_, i64_w, i32_w]; rfl
                     refine puA_ (i := 3) (N := some 68) (v := ?_) (a' := ?_) #[true, true, true, true, false, false, false, false, false, false, false, false, false, false, false, false, false, false] HT_.out rfl rfl (.inl ⟨by rfl, ?_⟩) ?_ ?_; rotate_left
                     ·intro w'; go_simp; with_reducible rfl
                     rotate_left
                     ·simp only [pt_, pn_, sz_, ss_, i64_w, i32_w]; rfl
                     refine puA_ (i := 6) (N := some 71) (v := ?_) (a' := ?_) #[true, true, true, true, false, false, true, false, false, false, false, false, false, false, false, false, false, false] HT_.out rfl rfl (.inl ⟨by rfl, ?_⟩) ?_ ?_; rotate_left
                     ·intro w'; go_simp; with_reducible rfl
                     rotate_left
                     ·simp only [pt_, pn_, sz_, ss_, i64_w, i32_w]; rfl
                     refine puA_ (i := 7) (N := some 72) (v := ?_) (a' := ?_) #[true, true, true, true, false, false, true, true, false, false, false, false, false, false, false, false, false, false] HT_.out rfl rfl (.inl ⟨by rfl, ?_⟩) ?_ ?_; rotate_left
                     ·intro w'; go_simp; with_reducible rfl
                     rotate_left
                     ·simp only [pt_, pn_, sz_, ss_, i64_w, i32_w]; rfl
                     refine puA_ (i := 8) (N := some 73) (v := ?_) (a' := ?_) #[true, true, true, true, false, false, true, true, true, false, false, false, false, false, false, false, false, false] HT_.out rfl rfl (.inl ⟨by rfl, ?_⟩) ?_ ?_; rotate_left
                     ·intro w'; go_simp; with_reducible rfl
                     rotate_left
                     ·simp only [pt_, pn_, sz_, ss_, i64_w, i32_w]; rfl
                     refine taA_ (i := 4) (N := some 69) (v := ?_) (a' := ?_) #[true, true, true, true, true, false, true, true, true, false, false, false, false, false, false, false, false, false] HT_.out HW_.out rfl rfl (.inl ⟨by rfl, ?_⟩) hHeld ?_ ?_; rotate_left
                     ·rintro w' ⟨s0, s1, s2, s3, s4, s5, s6, s7, s8, s9, s10, s11⟩; go_simp; with_reducible rfl
                     rotate_left
                     ·simp only [pt_, pn_, sz_, ss_, i64_w, i32_w]; rfl
                     refine taA_ (i := 9) (N := some 74) (v := ?_) (a' := ?_) #[true, true, true, true, true, false, true, true, true, true, false, false, false, false, false, false, false, false] HT_.out HW_.out rfl rfl (.inl ⟨by rfl, ?_⟩) hHeld ?_ ?_; rotate_left
                     ·rintro w' ⟨s0, s1, s2, s3, s4, s5, s6, s7, s8, s9, s10, s11⟩; go_simp; with_reducible rfl
                     rotate_left
                     ·simp only [pt_, pn_, sz_, ss_, i64_w, i32_w]; rfl
                     refine join_ (σ := Nat) 2 #[true, true, true, true, true, true, true, true, true, true, true, true, true, true, true, true, false, false] (fun s_ => [(70, .agg #[.string t123, .string t124]), (75, .agg #[.string t126, .string t127]), (76, .tuple #[.agg #[.string t128, .string t129], .bool true]), (4, .pointer (some ⟨s_, 0, none⟩)), (64, .tuple #[.agg #[.string t128, .string t129], .bool true]), (77, .agg #[.string t128, .string t129]), (78, .bool true)]) (fun s_ w' => (w'.cell? (ad113.add (((ji34)).toNat * 6)) = some (.int .u8 ((rd_T46 l0 (ji34)).f0)) ∧ w'.cell? ⟨(ad113.add (((ji34)).toNat * 6)).block, (ad113.add (((ji34)).toNat * 6)).off + 1, none⟩ = some (.int .i64 ((rd_T46 l0 (ji34)).f1)) ∧ w'.cell? ⟨(ad113.add (((ji34)).toNat * 6)).block, (ad113.add (((ji34)).toNat * 6)).off + 2, none⟩ = some (.string ((rd_T46 l0 (ji34)).f2)) ∧ w'.cell? ⟨(ad113.add (((ji34)).toNat * 6)).block, (ad113.add (((ji34)).toNat * 6)).off + 3, none⟩ = some (.string ((rd_T46 l0 (ji34)).f3)) ∧ w'.cell? ⟨(ad113.add (((ji34)).toNat * 6)).block, (ad113.add (((ji34)).toNat * 6)).off + 4, none⟩ = some (.string ((rd_T46 l0 (ji34)).f4)) ∧ w'.cell? ⟨(ad113.add (((ji34)).toNat * 6)).block, (ad113.add (((ji34)).toNat * 6)).off + 5, none⟩ = some (.int .u64 ((rd_T46 l0 (ji34)).f5)) ∧ w'.cell? (ad113.add ((x3_1).toNat * 6)) = some (.int .u8 ((rd_T46 l0 x3_1).f0)) ∧ w'.cell? ⟨(ad113.add ((x3_1).toNat * 6)).block, (ad113.add ((x3_1).toNat * 6)).off + 1, none⟩ = some (.int .i64 ((rd_T46 l0 x3_1).f1)) ∧ w'.cell? ⟨(ad113.add ((x3_1).toNat * 6)).block, (ad113.add ((x3_1).toNat * 6)).off + 2, none⟩ = some (.string ((rd_T46 l0 x3_1).f2)) ∧ w'.cell? ⟨(ad113.add ((x3_1).toNat * 6)).block, (ad113.add ((x3_1).toNat * 6)).off + 3, none⟩ = some (.string ((rd_T46 l0 x3_1).f3)) ∧ w'.cell? ⟨(ad113.add ((x3_1).toNat * 6)).block, (ad113.add ((x3_1).toNat * 6)).off + 4, none⟩ = some (.string ((rd_T46 l0 x3_1).f4)) ∧ w'.cell? ⟨(ad113.add ((x3_1).toNat * 6)).block, (ad113.add ((x3_1).toNat * 6)).off + 5, none⟩ = some (.int .u64 ((rd_T46 l0 x3_1).f5))) ∧ (w'.heap[s_]? = some (.cells #[.string ⟨#[]⟩, .string ⟨#[]⟩] 48 (0, 0))) ∧ (w.heap.size ≤ s_) ∧ (w.heap.size ≤ s_) ∧ (Below w.heap.size w w')) ?_ ?_
                     rotate_left
                     ·intro hCont
                      refine two_ (i := 5) (j := 15) (Ni := some 70) (Nj := some 4) #[true, true, true, true, true, true, true, true, true, true, false, false, false, false, false, false, false, false] #[true, true, true, true, true, false, true, true, true, true, false, false, false, false, false, true, false, false] rfl rfl rfl rfl (two_of HT_.out (by kernel_rfl)) (by decide) (by decide) (fun K hK => ?_) (fun K hK => ?_)
                      ·skip
                       (refine goes_ Try.func60 (by kernel_rfl) rfl #[.agg #[.int .u8 ((rd_T46 l0 (ji34)).f0), .int .i64 ((rd_T46 l0 (ji34)).f1), .string ((rd_T46 l0 (ji34)).f2), .string ((rd_T46 l0 (ji34)).f3), .string ((rd_T46 l0 (ji34)).f4), .int .u64 ((rd_T46 l0 (ji34)).f5)]] (by rfl) rfl rfl (by (try simp only [List.map_toArray, List.map_cons, List.map_nil]); first | done | (simp only [hji34]; rfl) | rfl | (simp only [List.length_drop, List.length_take]; rfl)) ?_); (with_reducible refine (catchmentref04_Span.calls ((rd_T46 l0 (ji34)).f0) ((rd_T46 l0 (ji34)).f1) ((rd_T46 l0 (ji34)).f2) ((rd_T46 l0 (ji34)).f3) ((rd_T46 l0 (ji34)).f4) ((rd_T46 l0 (ji34)).f5) t123 t124 _ A37.out).mono ?_); (rintro e w44 ⟨rfl, hb⟩); (refine ⟨_, rfl, ?_⟩); (have n0_ := Aside0.mk (below_step (q9_0) hb)); (clear HB); (have HB := n0_); (clear n0_); ((try clear hb)); ((try clear hb2)); ((try clear hk)); ((try clear hi))
                       (refine hK.out _ _ q9_2 (fun hHeld => ?_)); (clear hK K); (refine norm_ (a' := ?_) ?_ ?_)
                       rotate_left
                       ·show Act.put _ (some 70) _ = _
                        (simp only [pt_, pn_, sz_, ss_, i64_w, i32_w]); (rfl)
                       refine two_ (i := 10) (j := 15) (Ni := some 75) (Nj := some 4) #[true, true, true, true, true, true, true, true, true, true, true, false, false, false, false, false, false, false] #[true, true, true, true, true, true, true, true, true, true, false, false, false, false, false, true, false, false] rfl rfl rfl rfl (two_of HT_.out (by kernel_rfl)) (by decide) (by decide) (fun K hK => ?_) (fun K hK => ?_)
                       ·skip
                        (refine goes_ Try.func60 (by kernel_rfl) rfl #[.agg #[.int .u8 ((rd_T46 l0 x3_1).f0), .int .i64 ((rd_T46 l0 x3_1).f1), .string ((rd_T46 l0 x3_1).f2), .string ((rd_T46 l0 x3_1).f3), .string ((rd_T46 l0 x3_1).f4), .int .u64 ((rd_T46 l0 x3_1).f5)]] (by rfl) rfl rfl (by (try simp only [List.map_toArray, List.map_cons, List.map_nil]); first | done | rfl) ?_); (with_reducible refine (catchmentref04_Span.calls ((rd_T46 l0 x3_1).f0) ((rd_T46 l0 x3_1).f1) ((rd_T46 l0 x3_1).f2) ((rd_T46 l0 x3_1).f3) ((rd_T46 l0 x3_1).f4) ((rd_T46 l0 x3_1).f5) t126 t127 _ A40.out).mono ?_); (rintro e w45 ⟨rfl, hb⟩); (refine ⟨_, rfl, ?_⟩); (have n0_ := Aside0.mk (below_step (q9_0) hb)); (clear HB); (have HB := n0_); (clear n0_); ((try clear hb)); ((try clear hb2)); ((try clear hk)); ((try clear hi))
                        (refine hK.out _ _ q9_2 (fun hHeld => ?_)); (clear hK K); (refine norm_ (a' := ?_) ?_ ?_)
                        rotate_left
                        ·show Act.put _ (some 75) _ = _
                         (simp only [pt_, pn_, sz_, ss_, i64_w, i32_w]); (rfl)
                        refine two_ (i := 11) (j := 15) (Ni := some 76) (Nj := some 4) #[true, true, true, true, true, true, true, true, true, true, true, true, false, false, false, false, false, false] #[true, true, true, true, true, true, true, true, true, true, true, false, false, false, false, true, false, false] rfl rfl rfl rfl (two_of HT_.out (by kernel_rfl)) (by decide) (by decide) (fun K hK => ?_) (fun K hK => ?_)
                        ·skip
                         (refine goes_ Try.func88 (by kernel_rfl) rfl #[.agg #[.string t123, .string t124], .agg #[.string t126, .string t127]] (by rfl) rfl rfl (by (try simp only [List.map_toArray, List.map_cons, List.map_nil]); first | done | rfl) ?_); (with_reducible refine (catchmentref02_Meet.calls t123 t124 t126 t127 t128 t129 true _ A41.out).mono ?_); (rintro e w46 ⟨rfl, hb⟩); (refine ⟨_, rfl, ?_⟩); (have n0_ := Aside0.mk (below_step (q9_0) hb)); (clear HB); (have HB := n0_); (clear n0_); ((try clear hb)); ((try clear hb2)); ((try clear hk)); ((try clear hi))
                         (refine hK.out _ _ q9_2 (fun hHeld => ?_)); (clear hK K); (refine norm_ (a' := ?_) ?_ ?_)
                         rotate_left
                         ·show Act.put _ (some 76) _ = _
                          (simp only [pt_, pn_, sz_, ss_, i64_w, i32_w]); (rfl)
                         refine puA_ (i := 12) (N := some 64) (v := ?_) (a' := ?_) #[true, true, true, true, true, true, true, true, true, true, true, true, true, false, false, false, false, false] HT_.out rfl rfl (.inl ⟨by rfl, ?_⟩) ?_ ?_; rotate_left
                         ·intro w'; go_simp; with_reducible rfl
                         rotate_left
                         ·simp only [pt_, pn_, sz_, ss_, i64_w, i32_w]; rfl
                         refine puA_ (i := 13) (N := some 77) (v := ?_) (a' := ?_) #[true, true, true, true, true, true, true, true, true, true, true, true, true, true, false, false, false, false] HT_.out rfl rfl (.inl ⟨by rfl, ?_⟩) ?_ ?_; rotate_left
                         ·intro w'; go_simp; with_reducible rfl
                         rotate_left
                         ·simp only [pt_, pn_, sz_, ss_, i64_w, i32_w]; rfl
                         refine puA_ (i := 14) (N := some 78) (v := ?_) (a' := ?_) #[true, true, true, true, true, true, true, true, true, true, true, true, true, true, true, false, false, false] HT_.out rfl rfl (.inl ⟨by rfl, ?_⟩) ?_ ?_; rotate_left
                         ·intro w'; go_simp; with_reducible rfl
                         rotate_left
                         ·simp only [pt_, pn_, sz_, ss_, i64_w, i32_w]; rfl
                         (refine one_ (i := 15) (N := some 4) #[true, true, true, true, true, true, true, true, true, true, true, true, true, true, true, true, false, false] rfl rfl (one_of HT_.out (by kernel_rfl)) (by decide) (fun K hK => ?_)); (refine box_step ?hg (N := 4) ?hd (cs := #[.string ⟨#[]⟩, .string ⟨#[]⟩]) (t := 48) ?hr ?_; (case hd => rfl); (case hg => rfl); (case hr => first | (go_simp; done) | (go_simp; rfl))); (intro gb131 hg w47 hbox hb); (have n0_ := Aside0.mk (below_step (q9_0) hb)); (have n1_ := Aside0.mk (hbox)); (have n2_ := Aside0.mk (hs_ hg (q9_0))); (have n3_ := n2_); (clear HB); (have HB := n0_); (have BK131 := n1_); (have GW131 := n2_); (have GE131 := n3_); (clear n0_ n1_ n2_ n3_ hb hbox hg)
                         (refine hK.out _ _ q9_2 (fun hHeld => ?_)); (clear hK K); (refine norm_ (a' := ?_) ?_ ?_)
                         rotate_left
                         ·show Act.put _ (some 4) _ = _
                          (simp only [pt_, pn_, sz_, ss_, i64_w, i32_w]); (rfl)
                         exact norm_ (q9_3) (hCont (gb131) _ ⟨hHeld, (q9_4), GW131.out, GE131.out, (q9_5)⟩)
                        ·skip
                         (refine box_step ?hg (N := 4) ?hd (cs := #[.string ⟨#[]⟩, .string ⟨#[]⟩]) (t := 48) ?hr ?_; (case hd => rfl); (case hg => rfl); (case hr => first | (go_simp; done) | (go_simp; rfl))); (intro gb131 hg w46 hbox hb); (have n0_ := Aside0.mk (below_step (q9_0) hb)); (have n1_ := Aside0.mk (hbox)); (have n2_ := Aside0.mk (hs_ hg (q9_0))); (have n3_ := n2_); (clear HB); (have HB := n0_); (have BK131 := n1_); (have GW131 := n2_); (have GE131 := n3_); (clear n0_ n1_ n2_ n3_ hb hbox hg)
                         (refine hK.out _ _ q9_2 (fun hHeld => ?_)); (clear hK K); (refine norm_ (a' := ?_) ?_ ?_)
                         rotate_left
                         ·show Act.put _ (some 4) _ = _
                          (simp only [pt_, pn_, sz_, ss_, i64_w, i32_w]); (rfl)
                         (refine one_ (i := 11) (N := some 76) #[true, true, true, true, true, true, true, true, true, true, true, true, false, false, false, true, false, false] rfl rfl (one_of HT_.out (by kernel_rfl)) (by decide) (fun K hK => ?_)); (refine goes_ Try.func88 (by kernel_rfl) rfl #[.agg #[.string t123, .string t124], .agg #[.string t126, .string t127]] (by rfl) rfl rfl (by (try simp only [List.map_toArray, List.map_cons, List.map_nil]); first | done | rfl) ?_); (with_reducible refine (catchmentref02_Meet.calls t123 t124 t126 t127 t128 t129 true _ A41.out).mono ?_); (rintro e w47 ⟨rfl, hb⟩); (refine ⟨_, rfl, ?_⟩); (have n0_ := Aside0.mk (blk_below (q9_4) hb)); (have n1_ := Aside0.mk (below_step (q9_5) hb)); (clear BK131 HB); (have BK131 := n0_); (have HB := n1_); (clear n0_ n1_); ((try clear hb)); ((try clear hb2))
                         ((try clear hk)); ((try clear hi)); (refine hK.out _ _ q9_2 (fun hHeld => ?_)); (clear hK K); (refine norm_ (a' := ?_) ?_ ?_)
                         rotate_left
                         ·show Act.put _ (some 76) _ = _
                          (simp only [pt_, pn_, sz_, ss_, i64_w, i32_w]); (rfl)
                         refine puA_ (i := 12) (N := some 64) (v := ?_) (a' := ?_) #[true, true, true, true, true, true, true, true, true, true, true, true, true, false, false, true, false, false] HT_.out rfl rfl (.inl ⟨by rfl, ?_⟩) ?_ ?_; rotate_left
                         ·intro w'; go_simp; with_reducible rfl
                         rotate_left
                         ·simp only [pt_, pn_, sz_, ss_, i64_w, i32_w]; rfl
                         refine puA_ (i := 13) (N := some 77) (v := ?_) (a' := ?_) #[true, true, true, true, true, true, true, true, true, true, true, true, true, true, false, true, false, false] HT_.out rfl rfl (.inl ⟨by rfl, ?_⟩) ?_ ?_; rotate_left
                         ·intro w'; go_simp; with_reducible rfl
                         rotate_left
                         ·simp only [pt_, pn_, sz_, ss_, i64_w, i32_w]; rfl
                         refine puA_ (i := 14) (N := some 78) (v := ?_) (a' := ?_) #[true, true, true, true, true, true, true, true, true, true, true, true, true, true, true, true, false, false] HT_.out rfl rfl (.inl ⟨by rfl, ?_⟩) ?_ ?_; rotate_left
                         ·intro w'; go_simp; with_reducible rfl
                         rotate_left
                         ·simp only [pt_, pn_, sz_, ss_, i64_w, i32_w]; rfl
                         exact norm_ (q9_3) (hCont (gb131) _ ⟨hHeld, (q9_4), GW131.out, GE131.out, (q9_5)⟩)
                       ·skip
                        (refine box_step ?hg (N := 4) ?hd (cs := #[.string ⟨#[]⟩, .string ⟨#[]⟩]) (t := 48) ?hr ?_; (case hd => rfl); (case hg => rfl); (case hr => first | (go_simp; done) | (go_simp; rfl))); (intro gb131 hg w45 hbox hb); (have n0_ := Aside0.mk (below_step (q9_0) hb)); (have n1_ := Aside0.mk (hbox)); (have n2_ := Aside0.mk (hs_ hg (q9_0))); (have n3_ := n2_); (clear HB); (have HB := n0_); (have BK131 := n1_); (have GW131 := n2_); (have GE131 := n3_); (clear n0_ n1_ n2_ n3_ hb hbox hg)
                        (refine hK.out _ _ q9_2 (fun hHeld => ?_)); (clear hK K); (refine norm_ (a' := ?_) ?_ ?_)
                        rotate_left
                        ·show Act.put _ (some 4) _ = _
                         (simp only [pt_, pn_, sz_, ss_, i64_w, i32_w]); (rfl)
                        (refine one_ (i := 10) (N := some 75) #[true, true, true, true, true, true, true, true, true, true, true, false, false, false, false, true, false, false] rfl rfl (one_of HT_.out (by kernel_rfl)) (by decide) (fun K hK => ?_)); (refine goes_ Try.func60 (by kernel_rfl) rfl #[.agg #[.int .u8 ((rd_T46 l0 x3_1).f0), .int .i64 ((rd_T46 l0 x3_1).f1), .string ((rd_T46 l0 x3_1).f2), .string ((rd_T46 l0 x3_1).f3), .string ((rd_T46 l0 x3_1).f4), .int .u64 ((rd_T46 l0 x3_1).f5)]] (by rfl) rfl rfl (by (try simp only [List.map_toArray, List.map_cons, List.map_nil]); first | done | rfl) ?_); (with_reducible refine (catchmentref04_Span.calls ((rd_T46 l0 x3_1).f0) ((rd_T46 l0 x3_1).f1) ((rd_T46 l0 x3_1).f2) ((rd_T46 l0 x3_1).f3) ((rd_T46 l0 x3_1).f4) ((rd_T46 l0 x3_1).f5) t126 t127 _ A40.out).mono ?_); (rintro e w46 ⟨rfl, hb⟩); (refine ⟨_, rfl, ?_⟩); (have n0_ := Aside0.mk (blk_below (q9_4) hb))
                        (have n1_ := Aside0.mk (below_step (q9_5) hb)); (clear BK131 HB); (have BK131 := n0_); (have HB := n1_); (clear n0_ n1_); ((try clear hb)); ((try clear hb2)); ((try clear hk)); ((try clear hi)); (refine hK.out _ _ q9_2 (fun hHeld => ?_))
                        (clear hK K); (refine norm_ (a' := ?_) ?_ ?_)
                        rotate_left
                        ·show Act.put _ (some 75) _ = _
                         (simp only [pt_, pn_, sz_, ss_, i64_w, i32_w]); (rfl)
                        (refine one_ (i := 11) (N := some 76) #[true, true, true, true, true, true, true, true, true, true, true, true, false, false, false, true, false, false] rfl rfl (one_of HT_.out (by kernel_rfl)) (by decide) (fun K hK => ?_)); (refine goes_ Try.func88 (by kernel_rfl) rfl #[.agg #[.string t123, .string t124], .agg #[.string t126, .string t127]] (by rfl) rfl rfl (by (try simp only [List.map_toArray, List.map_cons, List.map_nil]); first | done | rfl) ?_); (with_reducible refine (catchmentref02_Meet.calls t123 t124 t126 t127 t128 t129 true _ A41.out).mono ?_); (rintro e w47 ⟨rfl, hb⟩); (refine ⟨_, rfl, ?_⟩); (have n0_ := Aside0.mk (blk_below (q9_4) hb)); (have n1_ := Aside0.mk (below_step (q9_5) hb)); (clear BK131 HB); (have BK131 := n0_); (have HB := n1_); (clear n0_ n1_); ((try clear hb)); ((try clear hb2))
                        ((try clear hk)); ((try clear hi)); (refine hK.out _ _ q9_2 (fun hHeld => ?_)); (clear hK K); (refine norm_ (a' := ?_) ?_ ?_)
                        rotate_left
                        ·show Act.put _ (some 76) _ = _
                         (simp only [pt_, pn_, sz_, ss_, i64_w, i32_w]); (rfl)
                        refine puA_ (i := 12) (N := some 64) (v := ?_) (a' := ?_) #[true, true, true, true, true, true, true, true, true, true, true, true, true, false, false, true, false, false] HT_.out rfl rfl (.inl ⟨by rfl, ?_⟩) ?_ ?_; rotate_left
                        ·intro w'; go_simp; with_reducible rfl
                        rotate_left
                        ·simp only [pt_, pn_, sz_, ss_, i64_w, i32_w]; rfl
                        refine puA_ (i := 13) (N := some 77) (v := ?_) (a' := ?_) #[true, true, true, true, true, true, true, true, true, true, true, true, true, true, false, true, false, false] HT_.out rfl rfl (.inl ⟨by rfl, ?_⟩) ?_ ?_; rotate_left
                        ·intro w'; go_simp; with_reducible rfl
                        rotate_left
                        ·simp only [pt_, pn_, sz_, ss_, i64_w, i32_w]; rfl
                        refine puA_ (i := 14) (N := some 78) (v := ?_) (a' := ?_) #[true, true, true, true, true, true, true, true, true, true, true, true, true, true, true, true, false, false] HT_.out rfl rfl (.inl ⟨by rfl, ?_⟩) ?_ ?_; rotate_left
                        ·intro w'; go_simp; with_reducible rfl
                        rotate_left
                        ·simp only [pt_, pn_, sz_, ss_, i64_w, i32_w]; rfl
                        exact norm_ (q9_3) (hCont (gb131) _ ⟨hHeld, (q9_4), GW131.out, GE131.out, (q9_5)⟩)
                      ·skip
                       (refine box_step ?hg (N := 4) ?hd (cs := #[.string ⟨#[]⟩, .string ⟨#[]⟩]) (t := 48) ?hr ?_; (case hd => rfl); (case hg => rfl); (case hr => first | (go_simp; done) | (go_simp; rfl))); (intro gb131 hg w44 hbox hb); (have n0_ := Aside0.mk (below_step (q9_0) hb)); (have n1_ := Aside0.mk (hbox)); (have n2_ := Aside0.mk (hs_ hg (q9_0))); (have n3_ := n2_); (clear HB); (have HB := n0_); (have BK131 := n1_); (have GW131 := n2_); (have GE131 := n3_); (clear n0_ n1_ n2_ n3_ hb hbox hg)
                       (refine hK.out _ _ q9_2 (fun hHeld => ?_)); (clear hK K); (refine norm_ (a' := ?_) ?_ ?_)
                       rotate_left
                       ·show Act.put _ (some 4) _ = _
                        (simp only [pt_, pn_, sz_, ss_, i64_w, i32_w]); (rfl)
                       (refine one_ (i := 5) (N := some 70) #[true, true, true, true, true, true, true, true, true, true, false, false, false, false, false, true, false, false] rfl rfl (one_of HT_.out (by kernel_rfl)) (by decide) (fun K hK => ?_)); (refine goes_ Try.func60 (by kernel_rfl) rfl #[.agg #[.int .u8 ((rd_T46 l0 (ji34)).f0), .int .i64 ((rd_T46 l0 (ji34)).f1), .string ((rd_T46 l0 (ji34)).f2), .string ((rd_T46 l0 (ji34)).f3), .string ((rd_T46 l0 (ji34)).f4), .int .u64 ((rd_T46 l0 (ji34)).f5)]] (by rfl) rfl rfl (by (try simp only [List.map_toArray, List.map_cons, List.map_nil]); first | done | (simp only [hji34]; rfl) | rfl | (simp only [List.length_drop, List.length_take]; rfl)) ?_); (with_reducible refine (catchmentref04_Span.calls ((rd_T46 l0 (ji34)).f0) ((rd_T46 l0 (ji34)).f1) ((rd_T46 l0 (ji34)).f2) ((rd_T46 l0 (ji34)).f3) ((rd_T46 l0 (ji34)).f4) ((rd_T46 l0 (ji34)).f5) t123 t124 _ A37.out).mono ?_); (rintro e w45 ⟨rfl, hb⟩); (refine ⟨_, rfl, ?_⟩); (have n0_ := Aside0.mk (blk_below (q9_4) hb))
                       (have n1_ := Aside0.mk (below_step (q9_5) hb)); (clear BK131 HB); (have BK131 := n0_); (have HB := n1_); (clear n0_ n1_); ((try clear hb)); ((try clear hb2)); ((try clear hk)); ((try clear hi)); (refine hK.out _ _ q9_2 (fun hHeld => ?_))
                       (clear hK K); (refine norm_ (a' := ?_) ?_ ?_)
                       rotate_left
                       ·show Act.put _ (some 70) _ = _
                        (simp only [pt_, pn_, sz_, ss_, i64_w, i32_w]); (rfl)
                       (refine one_ (i := 10) (N := some 75) #[true, true, true, true, true, true, true, true, true, true, true, false, false, false, false, true, false, false] rfl rfl (one_of HT_.out (by kernel_rfl)) (by decide) (fun K hK => ?_)); (refine goes_ Try.func60 (by kernel_rfl) rfl #[.agg #[.int .u8 ((rd_T46 l0 x3_1).f0), .int .i64 ((rd_T46 l0 x3_1).f1), .string ((rd_T46 l0 x3_1).f2), .string ((rd_T46 l0 x3_1).f3), .string ((rd_T46 l0 x3_1).f4), .int .u64 ((rd_T46 l0 x3_1).f5)]] (by rfl) rfl rfl (by (try simp only [List.map_toArray, List.map_cons, List.map_nil]); first | done | rfl) ?_); (with_reducible refine (catchmentref04_Span.calls ((rd_T46 l0 x3_1).f0) ((rd_T46 l0 x3_1).f1) ((rd_T46 l0 x3_1).f2) ((rd_T46 l0 x3_1).f3) ((rd_T46 l0 x3_1).f4) ((rd_T46 l0 x3_1).f5) t126 t127 _ A40.out).mono ?_); (rintro e w46 ⟨rfl, hb⟩); (refine ⟨_, rfl, ?_⟩); (have n0_ := Aside0.mk (blk_below (q9_4) hb))
                       (have n1_ := Aside0.mk (below_step (q9_5) hb)); (clear BK131 HB); (have BK131 := n0_); (have HB := n1_); (clear n0_ n1_); ((try clear hb)); ((try clear hb2)); ((try clear hk)); ((try clear hi)); (refine hK.out _ _ q9_2 (fun hHeld => ?_))
                       (clear hK K); (refine norm_ (a' := ?_) ?_ ?_)
                       rotate_left
                       ·show Act.put _ (some 75) _ = _
                        (simp only [pt_, pn_, sz_, ss_, i64_w, i32_w]); (rfl)
                       (refine one_ (i := 11) (N := some 76) #[true, true, true, true, true, true, true, true, true, true, true, true, false, false, false, true, false, false] rfl rfl (one_of HT_.out (by kernel_rfl)) (by decide) (fun K hK => ?_)); (refine goes_ Try.func88 (by kernel_rfl) rfl #[.agg #[.string t123, .string t124], .agg #[.string t126, .string t127]] (by rfl) rfl rfl (by (try simp only [List.map_toArray, List.map_cons, List.map_nil]); first | done | rfl) ?_); (with_reducible refine (catchmentref02_Meet.calls t123 t124 t126 t127 t128 t129 true _ A41.out).mono ?_); (rintro e w47 ⟨rfl, hb⟩); (refine ⟨_, rfl, ?_⟩); (have n0_ := Aside0.mk (blk_below (q9_4) hb)); (have n1_ := Aside0.mk (below_step (q9_5) hb)); (clear BK131 HB); (have BK131 := n0_); (have HB := n1_); (clear n0_ n1_); ((try clear hb)); ((try clear hb2))
                       ((try clear hk)); ((try clear hi)); (refine hK.out _ _ q9_2 (fun hHeld => ?_)); (clear hK K); (refine norm_ (a' := ?_) ?_ ?_)
                       rotate_left
                       ·show Act.put _ (some 76) _ = _
                        (simp only [pt_, pn_, sz_, ss_, i64_w, i32_w]); (rfl)
                       refine puA_ (i := 12) (N := some 64) (v := ?_) (a' := ?_) #[true, true, true, true, true, true, true, true, true, true, true, true, true, false, false, true, false, false] HT_.out rfl rfl (.inl ⟨by rfl, ?_⟩) ?_ ?_; rotate_left
                       ·intro w'; go_simp; with_reducible rfl
                       rotate_left
                       ·simp only [pt_, pn_, sz_, ss_, i64_w, i32_w]; rfl
                       refine puA_ (i := 13) (N := some 77) (v := ?_) (a' := ?_) #[true, true, true, true, true, true, true, true, true, true, true, true, true, true, false, true, false, false] HT_.out rfl rfl (.inl ⟨by rfl, ?_⟩) ?_ ?_; rotate_left
                       ·intro w'; go_simp; with_reducible rfl
                       rotate_left
                       ·simp only [pt_, pn_, sz_, ss_, i64_w, i32_w]; rfl
                       refine puA_ (i := 14) (N := some 78) (v := ?_) (a' := ?_) #[true, true, true, true, true, true, true, true, true, true, true, true, true, true, true, true, false, false] HT_.out rfl rfl (.inl ⟨by rfl, ?_⟩) ?_ ?_; rotate_left
                       ·intro w'; go_simp; with_reducible rfl
                       rotate_left
                       ·simp only [pt_, pn_, sz_, ss_, i64_w, i32_w]; rfl
                       exact norm_ (q9_3) (hCont (gb131) _ ⟨hHeld, (q9_4), GW131.out, GE131.out, (q9_5)⟩)
                     (rintro gb131 w48 ⟨hS_, h0_, h1_, h2_, h3_⟩); (have n0_ : Aside0 (w48.heap[gb131]? = some (.cells #[.string ⟨#[]⟩, .string ⟨#[]⟩] 48 (0, 0))) := ⟨h0_⟩); (have n1_ : Aside0 (w.heap.size ≤ gb131) := ⟨h1_⟩); (have n2_ : Aside0 (w.heap.size ≤ gb131) := ⟨h2_⟩); (have n3_ : Aside0 (Below w.heap.size w w48) := ⟨h3_⟩); (clear HB h0_ h1_ h2_ h3_); (have BK131 := n0_); (have GW131 := n1_); (have GE131 := n2_); (have HB := n3_); (clear n0_ n1_ n2_ n3_)
                     have hHeld := hS_
                     refine norm_ (a' := ?_) ?_ ?_
                     rotate_left
                     ·simp only [putAll, Act.put, List.setIfInBounds_toArray, List.set_cons_zero, List.set_cons_succ]
                      rfl
                     (refine one_ (i := 16) (N := none) #[true, true, true, true, true, true, true, true, true, true, true, true, true, true, true, true, true, false] rfl rfl (one_of HT_.out (by kernel_rfl)) (by decide) (fun K hK => ?_)); (have hs49 : w48.cell? ⟨gb131, 0, none⟩ = some (.string ⟨#[]⟩) := (b_ BK131 0)); (have hfs49 := blk_frozen BK131.out 0); (have hs50 : w48.cell? ⟨gb131, 1, none⟩ = some (.string ⟨#[]⟩) := (b_ BK131 1)); (have hfs50 := blk_frozen BK131.out 1); (refine skip_ (w1 := ?_) (by rfl) rfl ?_ ?_)
                     rotate_left
                     ·go_simp
                      rfl
                     refine hK.out _ _ q9_6 (fun hHeld => ?_)
                     (clear hK K); (refine puA_ (i := 17) (N := some 5) (v := ?_) (a' := ?_) #[true, true, true, true, true, true, true, true, true, true, true, true, true, true, true, true, true, true] HT_.out rfl rfl (.inl ⟨by rfl, ?_⟩) ?_ ?_; rotate_left)
                     ·intro w'; go_simp; with_reducible rfl
                     rotate_left
                     ·simp only [pt_, pn_, sz_, ss_, i64_w, i32_w]; rfl
                     (refine done_ (done_of HT_.out (by kernel_rfl)) ?_); (try go_wp2); (go_ret); (exact ⟨by first | rfl | (simp [errW_none, errW_some] <;> rfl) | (simp only [← hji34]; first | rfl | (simp [errW_none, errW_some] <;> rfl)) | (simp [*, errW_none, errW_some] <;> rfl), q9_5⟩)
                    ·replace c42 := Bool.eq_false_iff.mpr c42
                     (subst c42); (have H1 : (catchmentref12_Right.l0 kj23 l0 (wrap64 (x3_1 + 1))) = some r := by rw [if_neg (show ¬ (false = true) by decide)] at H; exact H); (clear H); (have H := H1); (clear H1); (have H' := Aside0.mk H); (clear H); (try go_wp2); (have n0_ := Aside0.mk (below_drew1 HB.out)); (clear HB); (have HB := n0_); (clear n0_); (have p122 : 0 ≤ ((ji34) : Int) := of_decide_eq_true (by first | (with_reducible assumption) | assumption)); (have q122 : (ji34) < (l0.length : Int) := of_decide_eq_true (by first | (with_reducible assumption) | assumption)); (obtain ⟨ad122, e122, hx122_0, hx122_1, hx122_2, hx122_3, hx122_4, hx122_5⟩ := at_T46 HR0.out (ji34) p122 q122); (have hw122_5 := hx122_5); (have hw122_4 := hx122_4); (have hw122_3 := hx122_3); (have hw122_2 := hx122_2); (have hw122_1 := hx122_1); (have hw122_0 := hx122_0); (obtain rfl : ad113 = ad122 := (by injection e122)); (replace hx122_0 := c1_ HB hx122_0); (replace hx122_1 := c1_ HB hx122_1); (replace hx122_2 := c1_ HB hx122_2)
                     (replace hx122_3 := c1_ HB hx122_3); (replace hx122_4 := c1_ HB hx122_4); (replace hx122_5 := c1_ HB hx122_5); (replace p122 := eq_true p122); (replace q122 := eq_true q122); (have p125 : 0 ≤ (x3_1 : Int) := of_decide_eq_true (by first | (with_reducible assumption) | assumption)); (have q125 : x3_1 < (l0.length : Int) := of_decide_eq_true (by first | (with_reducible assumption) | assumption)); (obtain ⟨ad125, e125, hx125_0, hx125_1, hx125_2, hx125_3, hx125_4, hx125_5⟩ := at_T46 HR0.out x3_1 p125 q125); (have hw125_5 := hx125_5); (have hw125_4 := hx125_4); (have hw125_3 := hx125_3); (have hw125_2 := hx125_2); (have hw125_1 := hx125_1); (have hw125_0 := hx125_0); (obtain rfl : ad113 = ad125 := (by injection e125)); (replace hx125_0 := c1_ HB hx125_0); (replace hx125_1 := c1_ HB hx125_1); (replace hx125_2 := c1_ HB hx125_2)
                     (replace hx125_3 := c1_ HB hx125_3); (replace hx125_4 := c1_ HB hx125_4); (replace hx125_5 := c1_ HB hx125_5); (replace p125 := eq_true p125); (replace q125 := eq_true q125)
                     refine start_ (n := 18) (S := fun w' => w'.cell? (ad113.add (((ji34)).toNat * 6)) = some (.int .u8 ((rd_T46 l0 (ji34)).f0)) ∧ w'.cell? ⟨(ad113.add (((ji34)).toNat * 6)).block, (ad113.add (((ji34)).toNat * 6)).off + 1, none⟩ = some (.int .i64 ((rd_T46 l0 (ji34)).f1)) ∧ w'.cell? ⟨(ad113.add (((ji34)).toNat * 6)).block, (ad113.add (((ji34)).toNat * 6)).off + 2, none⟩ = some (.string ((rd_T46 l0 (ji34)).f2)) ∧ w'.cell? ⟨(ad113.add (((ji34)).toNat * 6)).block, (ad113.add (((ji34)).toNat * 6)).off + 3, none⟩ = some (.string ((rd_T46 l0 (ji34)).f3)) ∧ w'.cell? ⟨(ad113.add (((ji34)).toNat * 6)).block, (ad113.add (((ji34)).toNat * 6)).off + 4, none⟩ = some (.string ((rd_T46 l0 (ji34)).f4)) ∧ w'.cell? ⟨(ad113.add (((ji34)).toNat * 6)).block, (ad113.add (((ji34)).toNat * 6)).off + 5, none⟩ = some (.int .u64 ((rd_T46 l0 (ji34)).f5)) ∧ w'.cell? (ad113.add ((x3_1).toNat * 6)) = some (.int .u8 ((rd_T46 l0 x3_1).f0)) ∧ w'.cell? ⟨(ad113.add ((x3_1).toNat * 6)).block, (ad113.add ((x3_1).toNat * 6)).off + 1, none⟩ = some (.int .i64 ((rd_T46 l0 x3_1).f1)) ∧ w'.cell? ⟨(ad113.add ((x3_1).toNat * 6)).block, (ad113.add ((x3_1).toNat * 6)).off + 2, none⟩ = some (.string ((rd_T46 l0 x3_1).f2)) ∧ w'.cell? ⟨(ad113.add ((x3_1).toNat * 6)).block, (ad113.add ((x3_1).toNat * 6)).off + 3, none⟩ = some (.string ((rd_T46 l0 x3_1).f3)) ∧ w'.cell? ⟨(ad113.add ((x3_1).toNat * 6)).block, (ad113.add ((x3_1).toNat * 6)).off + 4, none⟩ = some (.string ((rd_T46 l0 x3_1).f4)) ∧ w'.cell? ⟨(ad113.add ((x3_1).toNat * 6)).block, (ad113.add ((x3_1).toNat * 6)).off + 5, none⟩ = some (.int .u64 ((rd_T46 l0 x3_1).f5))) (ds := []) #[false, false, false, false, false, false, false, false, false, false, false, false, false, false, false, false, false, false] (by kernel_rfl) rfl rfl ⟨(c1_ HB hw122_0), (c1_ HB hw122_1), (c1_ HB hw122_2), (c1_ HB hw122_3), (c1_ HB hw122_4), (c1_ HB hw122_5), (c1_ HB hw125_0), (c1_ HB hw125_1), (c1_ HB hw125_2), (c1_ HB hw125_3), (c1_ HB hw125_4), (c1_ HB hw125_5)⟩ (fun hHeld => ?_); refine with_tabW catchmentref12_Right.tab11 catchmentref12_Right.bits11 (fun HT_ HW_ => ?_)
                     (generalize wc.drew = w51 at HB hx122_0 hx122_1 hx122_2 hx122_3 hx122_4 hx122_5 hx125_0 hx125_1 hx125_2 hx125_3 hx125_4 hx125_5 hHeld ⊢); (refine puA_ (i := 0) (N := some 65) (v := ?_) (a' := ?_) #[true, false, false, false, false, false, false, false, false, false, false, false, false, false, false, false, false, false] HT_.out rfl rfl (.inl ⟨by rfl, ?_⟩) ?_ ?_; rotate_left)
                     ·intro w'; go_simp; with_reducible rfl
                     rotate_left
                     ·simp only [pt_, pn_, sz_, ss_, i64_w, i32_w]; rfl
                     refine puA_ (i := 1) (N := some 66) (v := ?_) (a' := ?_) #[true, true, false, false, false, false, false, false, false, false, false, false, false, false, false, false, false, false] HT_.out rfl rfl (.inl ⟨by rfl, ?_⟩) ?_ ?_; rotate_left
                     ·intro w'; go_simp; with_reducible rfl
                     rotate_left
                     ·simp only [pt_, pn_, sz_, ss_, i64_w, i32_w]; rfl
                     refine puA_ (i := 2) (N := some 67) (v := ?_) (a' := ?_) #[true, true, true, false, false, false, false, false, false, false, false, false, false, false, false, false, false, false] HT_.out rfl rfl (.inl ⟨by rfl, ?_⟩) ?_ ?_; rotate_left
                     ·intro w'; go_simp; with_reducible rfl
                     rotate_left
                     ·simp only [pt_, pn_, sz_, ss_, i64_w, i32_w]; rfl
                     refine puA_ (i := 3) (N := some 68) (v := ?_) (a' := ?_) #[true, true, true, true, false, false, false, false, false, false, false, false, false, false, false, false, false, false] HT_.out rfl rfl (.inl ⟨by rfl, ?_⟩) ?_ ?_; rotate_left
                     ·intro w'; go_simp; with_reducible rfl
                     rotate_left
                     ·simp only [pt_, pn_, sz_, ss_, i64_w, i32_w]; rfl
                     refine puA_ (i := 6) (N := some 71) (v := ?_) (a' := ?_) #[true, true, true, true, false, false, true, false, false, false, false, false, false, false, false, false, false, false] HT_.out rfl rfl (.inl ⟨by rfl, ?_⟩) ?_ ?_; rotate_left
                     ·intro w'; go_simp; with_reducible rfl
                     rotate_left
                     ·simp only [pt_, pn_, sz_, ss_, i64_w, i32_w]; rfl
                     refine puA_ (i := 7) (N := some 72) (v := ?_) (a' := ?_) #[true, true, true, true, false, false, true, true, false, false, false, false, false, false, false, false, false, false] HT_.out rfl rfl (.inl ⟨by rfl, ?_⟩) ?_ ?_; rotate_left
                     ·intro w'; go_simp; with_reducible rfl
                     rotate_left
                     ·simp only [pt_, pn_, sz_, ss_, i64_w, i32_w]; rfl
                     refine puA_ (i := 8) (N := some 73) (v := ?_) (a' := ?_) #[true, true, true, true, false, false, true, true, true, false, false, false, false, false, false, false, false, false] HT_.out rfl rfl (.inl ⟨by rfl, ?_⟩) ?_ ?_; rotate_left
                     ·intro w'; go_simp; with_reducible rfl
                     rotate_left
                     ·simp only [pt_, pn_, sz_, ss_, i64_w, i32_w]; rfl
                     refine taA_ (i := 4) (N := some 69) (v := ?_) (a' := ?_) #[true, true, true, true, true, false, true, true, true, false, false, false, false, false, false, false, false, false] HT_.out HW_.out rfl rfl (.inl ⟨by rfl, ?_⟩) hHeld ?_ ?_; rotate_left
                     ·rintro w' ⟨s0, s1, s2, s3, s4, s5, s6, s7, s8, s9, s10, s11⟩; go_simp; with_reducible rfl
                     rotate_left
                     ·simp only [pt_, pn_, sz_, ss_, i64_w, i32_w]; rfl
                     refine taA_ (i := 9) (N := some 74) (v := ?_) (a' := ?_) #[true, true, true, true, true, false, true, true, true, true, false, false, false, false, false, false, false, false] HT_.out HW_.out rfl rfl (.inl ⟨by rfl, ?_⟩) hHeld ?_ ?_; rotate_left
                     ·rintro w' ⟨s0, s1, s2, s3, s4, s5, s6, s7, s8, s9, s10, s11⟩; go_simp; with_reducible rfl
                     rotate_left
                     ·simp only [pt_, pn_, sz_, ss_, i64_w, i32_w]; rfl
                     refine join_ (σ := Nat) 2 #[true, true, true, true, true, true, true, true, true, true, true, true, true, true, true, true, false, false] (fun s_ => [(70, .agg #[.string t123, .string t124]), (75, .agg #[.string t126, .string t127]), (76, .tuple #[.agg #[.string t128, .string t129], .bool false]), (4, .pointer (some ⟨s_, 0, none⟩)), (64, .tuple #[.agg #[.string t128, .string t129], .bool false]), (77, .agg #[.string t128, .string t129]), (78, .bool false)]) (fun s_ w' => (w'.cell? (ad113.add (((ji34)).toNat * 6)) = some (.int .u8 ((rd_T46 l0 (ji34)).f0)) ∧ w'.cell? ⟨(ad113.add (((ji34)).toNat * 6)).block, (ad113.add (((ji34)).toNat * 6)).off + 1, none⟩ = some (.int .i64 ((rd_T46 l0 (ji34)).f1)) ∧ w'.cell? ⟨(ad113.add (((ji34)).toNat * 6)).block, (ad113.add (((ji34)).toNat * 6)).off + 2, none⟩ = some (.string ((rd_T46 l0 (ji34)).f2)) ∧ w'.cell? ⟨(ad113.add (((ji34)).toNat * 6)).block, (ad113.add (((ji34)).toNat * 6)).off + 3, none⟩ = some (.string ((rd_T46 l0 (ji34)).f3)) ∧ w'.cell? ⟨(ad113.add (((ji34)).toNat * 6)).block, (ad113.add (((ji34)).toNat * 6)).off + 4, none⟩ = some (.string ((rd_T46 l0 (ji34)).f4)) ∧ w'.cell? ⟨(ad113.add (((ji34)).toNat * 6)).block, (ad113.add (((ji34)).toNat * 6)).off + 5, none⟩ = some (.int .u64 ((rd_T46 l0 (ji34)).f5)) ∧ w'.cell? (ad113.add ((x3_1).toNat * 6)) = some (.int .u8 ((rd_T46 l0 x3_1).f0)) ∧ w'.cell? ⟨(ad113.add ((x3_1).toNat * 6)).block, (ad113.add ((x3_1).toNat * 6)).off + 1, none⟩ = some (.int .i64 ((rd_T46 l0 x3_1).f1)) ∧ w'.cell? ⟨(ad113.add ((x3_1).toNat * 6)).block, (ad113.add ((x3_1).toNat * 6)).off + 2, none⟩ = some (.string ((rd_T46 l0 x3_1).f2)) ∧ w'.cell? ⟨(ad113.add ((x3_1).toNat * 6)).block, (ad113.add ((x3_1).toNat * 6)).off + 3, none⟩ = some (.string ((rd_T46 l0 x3_1).f3)) ∧ w'.cell? ⟨(ad113.add ((x3_1).toNat * 6)).block, (ad113.add ((x3_1).toNat * 6)).off + 4, none⟩ = some (.string ((rd_T46 l0 x3_1).f4)) ∧ w'.cell? ⟨(ad113.add ((x3_1).toNat * 6)).block, (ad113.add ((x3_1).toNat * 6)).off + 5, none⟩ = some (.int .u64 ((rd_T46 l0 x3_1).f5))) ∧ (w'.heap[s_]? = some (.cells #[.string ⟨#[]⟩, .string ⟨#[]⟩] 48 (0, 0))) ∧ (w.heap.size ≤ s_) ∧ (w.heap.size ≤ s_) ∧ (Below w.heap.size w w')) ?_ ?_
                     rotate_left
                     ·intro hCont
                      refine two_ (i := 5) (j := 15) (Ni := some 70) (Nj := some 4) #[true, true, true, true, true, true, true, true, true, true, false, false, false, false, false, false, false, false] #[true, true, true, true, true, false, true, true, true, true, false, false, false, false, false, true, false, false] rfl rfl rfl rfl (two_of HT_.out (by kernel_rfl)) (by decide) (by decide) (fun K hK => ?_) (fun K hK => ?_)
                      ·skip
                       (refine goes_ Try.func60 (by kernel_rfl) rfl #[.agg #[.int .u8 ((rd_T46 l0 (ji34)).f0), .int .i64 ((rd_T46 l0 (ji34)).f1), .string ((rd_T46 l0 (ji34)).f2), .string ((rd_T46 l0 (ji34)).f3), .string ((rd_T46 l0 (ji34)).f4), .int .u64 ((rd_T46 l0 (ji34)).f5)]] (by rfl) rfl rfl (by (try simp only [List.map_toArray, List.map_cons, List.map_nil]); first | done | (simp only [hji34]; rfl) | rfl | (simp only [List.length_drop, List.length_take]; rfl)) ?_); (with_reducible refine (catchmentref04_Span.calls ((rd_T46 l0 (ji34)).f0) ((rd_T46 l0 (ji34)).f1) ((rd_T46 l0 (ji34)).f2) ((rd_T46 l0 (ji34)).f3) ((rd_T46 l0 (ji34)).f4) ((rd_T46 l0 (ji34)).f5) t123 t124 _ A37.out).mono ?_); (rintro e w52 ⟨rfl, hb⟩); (refine ⟨_, rfl, ?_⟩); (have n0_ := Aside0.mk (below_step (q9_0) hb)); (clear HB); (have HB := n0_); (clear n0_); ((try clear hb)); ((try clear hb2)); ((try clear hk)); ((try clear hi))
                       (refine hK.out _ _ q9_2 (fun hHeld => ?_)); (clear hK K); (refine norm_ (a' := ?_) ?_ ?_)
                       rotate_left
                       ·show Act.put _ (some 70) _ = _
                        (simp only [pt_, pn_, sz_, ss_, i64_w, i32_w]); (rfl)
                       refine two_ (i := 10) (j := 15) (Ni := some 75) (Nj := some 4) #[true, true, true, true, true, true, true, true, true, true, true, false, false, false, false, false, false, false] #[true, true, true, true, true, true, true, true, true, true, false, false, false, false, false, true, false, false] rfl rfl rfl rfl (two_of HT_.out (by kernel_rfl)) (by decide) (by decide) (fun K hK => ?_) (fun K hK => ?_)
                       ·skip
                        (refine goes_ Try.func60 (by kernel_rfl) rfl #[.agg #[.int .u8 ((rd_T46 l0 x3_1).f0), .int .i64 ((rd_T46 l0 x3_1).f1), .string ((rd_T46 l0 x3_1).f2), .string ((rd_T46 l0 x3_1).f3), .string ((rd_T46 l0 x3_1).f4), .int .u64 ((rd_T46 l0 x3_1).f5)]] (by rfl) rfl rfl (by (try simp only [List.map_toArray, List.map_cons, List.map_nil]); first | done | rfl) ?_); (with_reducible refine (catchmentref04_Span.calls ((rd_T46 l0 x3_1).f0) ((rd_T46 l0 x3_1).f1) ((rd_T46 l0 x3_1).f2) ((rd_T46 l0 x3_1).f3) ((rd_T46 l0 x3_1).f4) ((rd_T46 l0 x3_1).f5) t126 t127 _ A40.out).mono ?_); (rintro e w53 ⟨rfl, hb⟩); (refine ⟨_, rfl, ?_⟩); (have n0_ := Aside0.mk (below_step (q9_0) hb)); (clear HB); (have HB := n0_); (clear n0_); ((try clear hb)); ((try clear hb2)); ((try clear hk)); ((try clear hi))
                        (refine hK.out _ _ q9_2 (fun hHeld => ?_)); (clear hK K); (refine norm_ (a' := ?_) ?_ ?_)
                        rotate_left
                        ·show Act.put _ (some 75) _ = _
                         (simp only [pt_, pn_, sz_, ss_, i64_w, i32_w]); (rfl)
                        refine two_ (i := 11) (j := 15) (Ni := some 76) (Nj := some 4) #[true, true, true, true, true, true, true, true, true, true, true, true, false, false, false, false, false, false] #[true, true, true, true, true, true, true, true, true, true, true, false, false, false, false, true, false, false] rfl rfl rfl rfl (two_of HT_.out (by kernel_rfl)) (by decide) (by decide) (fun K hK => ?_) (fun K hK => ?_)
                        ·skip
                         (refine goes_ Try.func88 (by kernel_rfl) rfl #[.agg #[.string t123, .string t124], .agg #[.string t126, .string t127]] (by rfl) rfl rfl (by (try simp only [List.map_toArray, List.map_cons, List.map_nil]); first | done | rfl) ?_); (with_reducible refine (catchmentref02_Meet.calls t123 t124 t126 t127 t128 t129 false _ A41.out).mono ?_); (rintro e w54 ⟨rfl, hb⟩); (refine ⟨_, rfl, ?_⟩); (have n0_ := Aside0.mk (below_step (q9_0) hb)); (clear HB); (have HB := n0_); (clear n0_); ((try clear hb)); ((try clear hb2)); ((try clear hk)); ((try clear hi))
                         (refine hK.out _ _ q9_2 (fun hHeld => ?_)); (clear hK K); (refine norm_ (a' := ?_) ?_ ?_)
                         rotate_left
                         ·show Act.put _ (some 76) _ = _
                          (simp only [pt_, pn_, sz_, ss_, i64_w, i32_w]); (rfl)
                         refine puA_ (i := 12) (N := some 64) (v := ?_) (a' := ?_) #[true, true, true, true, true, true, true, true, true, true, true, true, true, false, false, false, false, false] HT_.out rfl rfl (.inl ⟨by rfl, ?_⟩) ?_ ?_; rotate_left
                         ·intro w'; go_simp; with_reducible rfl
                         rotate_left
                         ·simp only [pt_, pn_, sz_, ss_, i64_w, i32_w]; rfl
                         refine puA_ (i := 13) (N := some 77) (v := ?_) (a' := ?_) #[true, true, true, true, true, true, true, true, true, true, true, true, true, true, false, false, false, false] HT_.out rfl rfl (.inl ⟨by rfl, ?_⟩) ?_ ?_; rotate_left
                         ·intro w'; go_simp; with_reducible rfl
                         rotate_left
                         ·simp only [pt_, pn_, sz_, ss_, i64_w, i32_w]; rfl
                         refine puA_ (i := 14) (N := some 78) (v := ?_) (a' := ?_) #[true, true, true, true, true, true, true, true, true, true, true, true, true, true, true, false, false, false] HT_.out rfl rfl (.inl ⟨by rfl, ?_⟩) ?_ ?_; rotate_left
                         ·intro w'; go_simp; with_reducible rfl
                         rotate_left
                         ·simp only [pt_, pn_, sz_, ss_, i64_w, i32_w]; rfl
                         (refine one_ (i := 15) (N := some 4) #[true, true, true, true, true, true, true, true, true, true, true, true, true, true, true, true, false, false] rfl rfl (one_of HT_.out (by kernel_rfl)) (by decide) (fun K hK => ?_)); (refine box_step ?hg (N := 4) ?hd (cs := #[.string ⟨#[]⟩, .string ⟨#[]⟩]) (t := 48) ?hr ?_; (case hd => rfl); (case hg => rfl); (case hr => first | (go_simp; done) | (go_simp; rfl))); (intro gb131 hg w55 hbox hb); (have n0_ := Aside0.mk (below_step (q9_0) hb)); (have n1_ := Aside0.mk (hbox)); (have n2_ := Aside0.mk (hs_ hg (q9_0))); (have n3_ := n2_); (clear HB); (have HB := n0_); (have BK131 := n1_); (have GW131 := n2_); (have GE131 := n3_); (clear n0_ n1_ n2_ n3_ hb hbox hg)
                         (refine hK.out _ _ q9_2 (fun hHeld => ?_)); (clear hK K); (refine norm_ (a' := ?_) ?_ ?_)
                         rotate_left
                         ·show Act.put _ (some 4) _ = _
                          (simp only [pt_, pn_, sz_, ss_, i64_w, i32_w]); (rfl)
                         exact norm_ (q9_3) (hCont (gb131) _ ⟨hHeld, (q9_4), GW131.out, GE131.out, (q9_5)⟩)
                        ·skip
                         (refine box_step ?hg (N := 4) ?hd (cs := #[.string ⟨#[]⟩, .string ⟨#[]⟩]) (t := 48) ?hr ?_; (case hd => rfl); (case hg => rfl); (case hr => first | (go_simp; done) | (go_simp; rfl))); (intro gb131 hg w54 hbox hb); (have n0_ := Aside0.mk (below_step (q9_0) hb)); (have n1_ := Aside0.mk (hbox)); (have n2_ := Aside0.mk (hs_ hg (q9_0))); (have n3_ := n2_); (clear HB); (have HB := n0_); (have BK131 := n1_); (have GW131 := n2_); (have GE131 := n3_); (clear n0_ n1_ n2_ n3_ hb hbox hg)
                         (refine hK.out _ _ q9_2 (fun hHeld => ?_)); (clear hK K); (refine norm_ (a' := ?_) ?_ ?_)
                         rotate_left
                         ·show Act.put _ (some 4) _ = _
                          (simp only [pt_, pn_, sz_, ss_, i64_w, i32_w]); (rfl)
                         (refine one_ (i := 11) (N := some 76) #[true, true, true, true, true, true, true, true, true, true, true, true, false, false, false, true, false, false] rfl rfl (one_of HT_.out (by kernel_rfl)) (by decide) (fun K hK => ?_)); (refine goes_ Try.func88 (by kernel_rfl) rfl #[.agg #[.string t123, .string t124], .agg #[.string t126, .string t127]] (by rfl) rfl rfl (by (try simp only [List.map_toArray, List.map_cons, List.map_nil]); first | done | rfl) ?_); (with_reducible refine (catchmentref02_Meet.calls t123 t124 t126 t127 t128 t129 false _ A41.out).mono ?_); (rintro e w55 ⟨rfl, hb⟩); (refine ⟨_, rfl, ?_⟩); (have n0_ := Aside0.mk (blk_below (q9_4) hb)); (have n1_ := Aside0.mk (below_step (q9_5) hb)); (clear BK131 HB); (have BK131 := n0_); (have HB := n1_); (clear n0_ n1_); ((try clear hb)); ((try clear hb2))
                         ((try clear hk)); ((try clear hi)); (refine hK.out _ _ q9_2 (fun hHeld => ?_)); (clear hK K); (refine norm_ (a' := ?_) ?_ ?_)
                         rotate_left
                         ·show Act.put _ (some 76) _ = _
                          (simp only [pt_, pn_, sz_, ss_, i64_w, i32_w]); (rfl)
                         refine puA_ (i := 12) (N := some 64) (v := ?_) (a' := ?_) #[true, true, true, true, true, true, true, true, true, true, true, true, true, false, false, true, false, false] HT_.out rfl rfl (.inl ⟨by rfl, ?_⟩) ?_ ?_; rotate_left
                         ·intro w'; go_simp; with_reducible rfl
                         rotate_left
                         ·simp only [pt_, pn_, sz_, ss_, i64_w, i32_w]; rfl
                         refine puA_ (i := 13) (N := some 77) (v := ?_) (a' := ?_) #[true, true, true, true, true, true, true, true, true, true, true, true, true, true, false, true, false, false] HT_.out rfl rfl (.inl ⟨by rfl, ?_⟩) ?_ ?_; rotate_left
                         ·intro w'; go_simp; with_reducible rfl
                         rotate_left
                         ·simp only [pt_, pn_, sz_, ss_, i64_w, i32_w]; rfl
                         refine puA_ (i := 14) (N := some 78) (v := ?_) (a' := ?_) #[true, true, true, true, true, true, true, true, true, true, true, true, true, true, true, true, false, false] HT_.out rfl rfl (.inl ⟨by rfl, ?_⟩) ?_ ?_; rotate_left
                         ·intro w'; go_simp; with_reducible rfl
                         rotate_left
                         ·simp only [pt_, pn_, sz_, ss_, i64_w, i32_w]; rfl
                         exact norm_ (q9_3) (hCont (gb131) _ ⟨hHeld, (q9_4), GW131.out, GE131.out, (q9_5)⟩)
                       ·skip
                        (refine box_step ?hg (N := 4) ?hd (cs := #[.string ⟨#[]⟩, .string ⟨#[]⟩]) (t := 48) ?hr ?_; (case hd => rfl); (case hg => rfl); (case hr => first | (go_simp; done) | (go_simp; rfl))); (intro gb131 hg w53 hbox hb); (have n0_ := Aside0.mk (below_step (q9_0) hb)); (have n1_ := Aside0.mk (hbox)); (have n2_ := Aside0.mk (hs_ hg (q9_0))); (have n3_ := n2_); (clear HB); (have HB := n0_); (have BK131 := n1_); (have GW131 := n2_); (have GE131 := n3_); (clear n0_ n1_ n2_ n3_ hb hbox hg)
                        (refine hK.out _ _ q9_2 (fun hHeld => ?_)); (clear hK K); (refine norm_ (a' := ?_) ?_ ?_)
                        rotate_left
                        ·show Act.put _ (some 4) _ = _
                         (simp only [pt_, pn_, sz_, ss_, i64_w, i32_w]); (rfl)
                        (refine one_ (i := 10) (N := some 75) #[true, true, true, true, true, true, true, true, true, true, true, false, false, false, false, true, false, false] rfl rfl (one_of HT_.out (by kernel_rfl)) (by decide) (fun K hK => ?_)); (refine goes_ Try.func60 (by kernel_rfl) rfl #[.agg #[.int .u8 ((rd_T46 l0 x3_1).f0), .int .i64 ((rd_T46 l0 x3_1).f1), .string ((rd_T46 l0 x3_1).f2), .string ((rd_T46 l0 x3_1).f3), .string ((rd_T46 l0 x3_1).f4), .int .u64 ((rd_T46 l0 x3_1).f5)]] (by rfl) rfl rfl (by (try simp only [List.map_toArray, List.map_cons, List.map_nil]); first | done | rfl) ?_); (with_reducible refine (catchmentref04_Span.calls ((rd_T46 l0 x3_1).f0) ((rd_T46 l0 x3_1).f1) ((rd_T46 l0 x3_1).f2) ((rd_T46 l0 x3_1).f3) ((rd_T46 l0 x3_1).f4) ((rd_T46 l0 x3_1).f5) t126 t127 _ A40.out).mono ?_); (rintro e w54 ⟨rfl, hb⟩); (refine ⟨_, rfl, ?_⟩); (have n0_ := Aside0.mk (blk_below (q9_4) hb))
                        (have n1_ := Aside0.mk (below_step (q9_5) hb)); (clear BK131 HB); (have BK131 := n0_); (have HB := n1_); (clear n0_ n1_); ((try clear hb)); ((try clear hb2)); ((try clear hk)); ((try clear hi)); (refine hK.out _ _ q9_2 (fun hHeld => ?_))
                        (clear hK K); (refine norm_ (a' := ?_) ?_ ?_)
                        rotate_left
                        ·show Act.put _ (some 75) _ = _
                         (simp only [pt_, pn_, sz_, ss_, i64_w, i32_w]); (rfl)
                        (refine one_ (i := 11) (N := some 76) #[true, true, true, true, true, true, true, true, true, true, true, true, false, false, false, true, false, false] rfl rfl (one_of HT_.out (by kernel_rfl)) (by decide) (fun K hK => ?_)); (refine goes_ Try.func88 (by kernel_rfl) rfl #[.agg #[.string t123, .string t124], .agg #[.string t126, .string t127]] (by rfl) rfl rfl (by (try simp only [List.map_toArray, List.map_cons, List.map_nil]); first | done | rfl) ?_); (with_reducible refine (catchmentref02_Meet.calls t123 t124 t126 t127 t128 t129 false _ A41.out).mono ?_); (rintro e w55 ⟨rfl, hb⟩); (refine ⟨_, rfl, ?_⟩); (have n0_ := Aside0.mk (blk_below (q9_4) hb)); (have n1_ := Aside0.mk (below_step (q9_5) hb)); (clear BK131 HB); (have BK131 := n0_); (have HB := n1_); (clear n0_ n1_); ((try clear hb)); ((try clear hb2))
                        ((try clear hk)); ((try clear hi)); (refine hK.out _ _ q9_2 (fun hHeld => ?_)); (clear hK K); (refine norm_ (a' := ?_) ?_ ?_)
                        rotate_left
                        ·show Act.put _ (some 76) _ = _
                         (simp only [pt_, pn_, sz_, ss_, i64_w, i32_w]); (rfl)
                        refine puA_ (i := 12) (N := some 64) (v := ?_) (a' := ?_) #[true, true, true, true, true, true, true, true, true, true, true, true, true, false, false, true, false, false] HT_.out rfl rfl (.inl ⟨by rfl, ?_⟩) ?_ ?_; rotate_left
                        ·intro w'; go_simp; with_reducible rfl
                        rotate_left
                        ·simp only [pt_, pn_, sz_, ss_, i64_w, i32_w]; rfl
                        refine puA_ (i := 13) (N := some 77) (v := ?_) (a' := ?_) #[true, true, true, true, true, true, true, true, true, true, true, true, true, true, false, true, false, false] HT_.out rfl rfl (.inl ⟨by rfl, ?_⟩) ?_ ?_; rotate_left
                        ·intro w'; go_simp; with_reducible rfl
                        rotate_left
                        ·simp only [pt_, pn_, sz_, ss_, i64_w, i32_w]; rfl
                        refine puA_ (i := 14) (N := some 78) (v := ?_) (a' := ?_) #[true, true, true, true, true, true, true, true, true, true, true, true, true, true, true, true, false, false] HT_.out rfl rfl (.inl ⟨by rfl, ?_⟩) ?_ ?_; rotate_left
                        ·intro w'; go_simp; with_reducible rfl
                        rotate_left
                        ·simp only [pt_, pn_, sz_, ss_, i64_w, i32_w]; rfl
                        exact norm_ (q9_3) (hCont (gb131) _ ⟨hHeld, (q9_4), GW131.out, GE131.out, (q9_5)⟩)
                      ·skip
                       (refine box_step ?hg (N := 4) ?hd (cs := #[.string ⟨#[]⟩, .string ⟨#[]⟩]) (t := 48) ?hr ?_; (case hd => rfl); (case hg => rfl); (case hr => first | (go_simp; done) | (go_simp; rfl))); (intro gb131 hg w52 hbox hb); (have n0_ := Aside0.mk (below_step (q9_0) hb)); (have n1_ := Aside0.mk (hbox)); (have n2_ := Aside0.mk (hs_ hg (q9_0))); (have n3_ := n2_); (clear HB); (have HB := n0_); (have BK131 := n1_); (have GW131 := n2_); (have GE131 := n3_); (clear n0_ n1_ n2_ n3_ hb hbox hg)
                       (refine hK.out _ _ q9_2 (fun hHeld => ?_)); (clear hK K); (refine norm_ (a' := ?_) ?_ ?_)
                       rotate_left
                       ·show Act.put _ (some 4) _ = _
                        (simp only [pt_, pn_, sz_, ss_, i64_w, i32_w]); (rfl)
                       (refine one_ (i := 5) (N := some 70) #[true, true, true, true, true, true, true, true, true, true, false, false, false, false, false, true, false, false] rfl rfl (one_of HT_.out (by kernel_rfl)) (by decide) (fun K hK => ?_)); (refine goes_ Try.func60 (by kernel_rfl) rfl #[.agg #[.int .u8 ((rd_T46 l0 (ji34)).f0), .int .i64 ((rd_T46 l0 (ji34)).f1), .string ((rd_T46 l0 (ji34)).f2), .string ((rd_T46 l0 (ji34)).f3), .string ((rd_T46 l0 (ji34)).f4), .int .u64 ((rd_T46 l0 (ji34)).f5)]] (by rfl) rfl rfl (by (try simp only [List.map_toArray, List.map_cons, List.map_nil]); first | done | (simp only [hji34]; rfl) | rfl | (simp only [List.length_drop, List.length_take]; rfl)) ?_); (with_reducible refine (catchmentref04_Span.calls ((rd_T46 l0 (ji34)).f0) ((rd_T46 l0 (ji34)).f1) ((rd_T46 l0 (ji34)).f2) ((rd_T46 l0 (ji34)).f3) ((rd_T46 l0 (ji34)).f4) ((rd_T46 l0 (ji34)).f5) t123 t124 _ A37.out).mono ?_); (rintro e w53 ⟨rfl, hb⟩); (refine ⟨_, rfl, ?_⟩); (have n0_ := Aside0.mk (blk_below (q9_4) hb))
                       (have n1_ := Aside0.mk (below_step (q9_5) hb)); (clear BK131 HB); (have BK131 := n0_); (have HB := n1_); (clear n0_ n1_); ((try clear hb)); ((try clear hb2)); ((try clear hk)); ((try clear hi)); (refine hK.out _ _ q9_2 (fun hHeld => ?_))
                       (clear hK K); (refine norm_ (a' := ?_) ?_ ?_)
                       rotate_left
                       ·show Act.put _ (some 70) _ = _
                        (simp only [pt_, pn_, sz_, ss_, i64_w, i32_w]); (rfl)
                       (refine one_ (i := 10) (N := some 75) #[true, true, true, true, true, true, true, true, true, true, true, false, false, false, false, true, false, false] rfl rfl (one_of HT_.out (by kernel_rfl)) (by decide) (fun K hK => ?_)); (refine goes_ Try.func60 (by kernel_rfl) rfl #[.agg #[.int .u8 ((rd_T46 l0 x3_1).f0), .int .i64 ((rd_T46 l0 x3_1).f1), .string ((rd_T46 l0 x3_1).f2), .string ((rd_T46 l0 x3_1).f3), .string ((rd_T46 l0 x3_1).f4), .int .u64 ((rd_T46 l0 x3_1).f5)]] (by rfl) rfl rfl (by (try simp only [List.map_toArray, List.map_cons, List.map_nil]); first | done | rfl) ?_); (with_reducible refine (catchmentref04_Span.calls ((rd_T46 l0 x3_1).f0) ((rd_T46 l0 x3_1).f1) ((rd_T46 l0 x3_1).f2) ((rd_T46 l0 x3_1).f3) ((rd_T46 l0 x3_1).f4) ((rd_T46 l0 x3_1).f5) t126 t127 _ A40.out).mono ?_); (rintro e w54 ⟨rfl, hb⟩); (refine ⟨_, rfl, ?_⟩); (have n0_ := Aside0.mk (blk_below (q9_4) hb))
                       (have n1_ := Aside0.mk (below_step (q9_5) hb)); (clear BK131 HB); (have BK131 := n0_); (have HB := n1_); (clear n0_ n1_); ((try clear hb)); ((try clear hb2)); ((try clear hk)); ((try clear hi)); (refine hK.out _ _ q9_2 (fun hHeld => ?_))
                       (clear hK K); (refine norm_ (a' := ?_) ?_ ?_)
                       rotate_left
                       ·show Act.put _ (some 75) _ = _
                        (simp only [pt_, pn_, sz_, ss_, i64_w, i32_w]); (rfl)
                       (refine one_ (i := 11) (N := some 76) #[true, true, true, true, true, true, true, true, true, true, true, true, false, false, false, true, false, false] rfl rfl (one_of HT_.out (by kernel_rfl)) (by decide) (fun K hK => ?_)); (refine goes_ Try.func88 (by kernel_rfl) rfl #[.agg #[.string t123, .string t124], .agg #[.string t126, .string t127]] (by rfl) rfl rfl (by (try simp only [List.map_toArray, List.map_cons, List.map_nil]); first | done | rfl) ?_); (with_reducible refine (catchmentref02_Meet.calls t123 t124 t126 t127 t128 t129 false _ A41.out).mono ?_); (rintro e w55 ⟨rfl, hb⟩); (refine ⟨_, rfl, ?_⟩); (have n0_ := Aside0.mk (blk_below (q9_4) hb)); (have n1_ := Aside0.mk (below_step (q9_5) hb)); (clear BK131 HB); (have BK131 := n0_); (have HB := n1_); (clear n0_ n1_); ((try clear hb)); ((try clear hb2))
                       ((try clear hk)); ((try clear hi)); (refine hK.out _ _ q9_2 (fun hHeld => ?_)); (clear hK K); (refine norm_ (a' := ?_) ?_ ?_)
                       rotate_left
                       ·show Act.put _ (some 76) _ = _
                        (simp only [pt_, pn_, sz_, ss_, i64_w, i32_w]); (rfl)
                       refine puA_ (i := 12) (N := some 64) (v := ?_) (a' := ?_) #[true, true, true, true, true, true, true, true, true, true, true, true, true, false, false, true, false, false] HT_.out rfl rfl (.inl ⟨by rfl, ?_⟩) ?_ ?_; rotate_left
                       ·intro w'; go_simp; with_reducible rfl
                       rotate_left
                       ·simp only [pt_, pn_, sz_, ss_, i64_w, i32_w]; rfl
                       refine puA_ (i := 13) (N := some 77) (v := ?_) (a' := ?_) #[true, true, true, true, true, true, true, true, true, true, true, true, true, true, false, true, false, false] HT_.out rfl rfl (.inl ⟨by rfl, ?_⟩) ?_ ?_; rotate_left
                       ·intro w'; go_simp; with_reducible rfl
                       rotate_left
                       ·simp only [pt_, pn_, sz_, ss_, i64_w, i32_w]; rfl
                       refine puA_ (i := 14) (N := some 78) (v := ?_) (a' := ?_) #[true, true, true, true, true, true, true, true, true, true, true, true, true, true, true, true, false, false] HT_.out rfl rfl (.inl ⟨by rfl, ?_⟩) ?_ ?_; rotate_left
                       ·intro w'; go_simp; with_reducible rfl
                       rotate_left
                       ·simp only [pt_, pn_, sz_, ss_, i64_w, i32_w]; rfl
                       exact norm_ (q9_3) (hCont (gb131) _ ⟨hHeld, (q9_4), GW131.out, GE131.out, (q9_5)⟩)
                     (rintro gb131 w56 ⟨hS_, h0_, h1_, h2_, h3_⟩); (have n0_ : Aside0 (w56.heap[gb131]? = some (.cells #[.string ⟨#[]⟩, .string ⟨#[]⟩] 48 (0, 0))) := ⟨h0_⟩); (have n1_ : Aside0 (w.heap.size ≤ gb131) := ⟨h1_⟩); (have n2_ : Aside0 (w.heap.size ≤ gb131) := ⟨h2_⟩); (have n3_ : Aside0 (Below w.heap.size w w56) := ⟨h3_⟩); (clear HB h0_ h1_ h2_ h3_); (have BK131 := n0_); (have GW131 := n1_); (have GE131 := n2_); (have HB := n3_); (clear n0_ n1_ n2_ n3_)
                     have hHeld := hS_
                     refine norm_ (a' := ?_) ?_ ?_
                     rotate_left
                     ·simp only [putAll, Act.put, List.setIfInBounds_toArray, List.set_cons_zero, List.set_cons_succ]
                      rfl
                     (refine one_ (i := 16) (N := none) #[true, true, true, true, true, true, true, true, true, true, true, true, true, true, true, true, true, false] rfl rfl (one_of HT_.out (by kernel_rfl)) (by decide) (fun K hK => ?_)); (have hs57 : w56.cell? ⟨gb131, 0, none⟩ = some (.string ⟨#[]⟩) := (b_ BK131 0)); (have hfs57 := blk_frozen BK131.out 0); (have hs58 : w56.cell? ⟨gb131, 1, none⟩ = some (.string ⟨#[]⟩) := (b_ BK131 1)); (have hfs58 := blk_frozen BK131.out 1); (refine skip_ (w1 := ?_) (by rfl) rfl ?_ ?_)
                     rotate_left
                     ·go_simp
                      rfl
                     refine hK.out _ _ q9_6 (fun hHeld => ?_)
                     (clear hK K); (refine puA_ (i := 17) (N := some 5) (v := ?_) (a' := ?_) #[true, true, true, true, true, true, true, true, true, true, true, true, true, true, true, true, true, true] HT_.out rfl rfl (.inl ⟨by rfl, ?_⟩) ?_ ?_; rotate_left)
                     ·intro w'; go_simp; with_reducible rfl
                     rotate_left
                     ·simp only [pt_, pn_, sz_, ss_, i64_w, i32_w]; rfl
                     (refine done_ (done_of HT_.out (by kernel_rfl)) ?_); (try go_wp2); (go_roundg kj23)
                     case measure => have := HK1.out; have := HJ2.out; have := HJ11.out; have := HJ23.out; omega
                     case rel => exact ⟨(wrap64 (x3_1 + 1)), (by first | rfl | (simp; done) | (simp [*]; done)), H', ⟨q9_7⟩, ⟨q9_5⟩⟩
                   ·rw [if_neg c39] at H
                    exact absurd H (by simp)
                  ·rw [if_neg c38] at H
                   exact absurd H (by simp)
                 ·rw [if_neg c36] at H
                  exact absurd H (by simp)
                ·rw [if_neg c35] at H
                 exact absurd H (by simp)
               ·replace c33 := Bool.eq_false_iff.mpr c33
                (subst c33); (have H1 : (catchmentref12_Right.l0 kj23 l0 (wrap64 (x3_1 + 1))) = some r := by rw [if_neg (show ¬ (false = true) by decide)] at H; exact H); (clear H); (have H := H1); (clear H1); (have H' := Aside0.mk H); (clear H); (go_wp2); (go_roundg kj23)
                case measure => have := HK1.out; have := HJ2.out; have := HJ11.out; have := HJ23.out; omega
                case rel => exact ⟨(wrap64 (x3_1 + 1)), (by first | rfl | (simp; done) | (simp [*]; done)), H', ⟨q9_7⟩, ⟨q9_0⟩⟩
         ·replace c11 := Bool.eq_false_iff.mpr c11
          (subst c11); (have H1 : (some false) = some r := by rw [if_neg (show ¬ (false = true) by decide)] at H; exact H); (clear H); (have H := H1); (clear H1); (obtain rfl := Option.some.inj H); (have p113 : 0 ≤ (x3_1 : Int) := of_decide_eq_true (by first | (with_reducible assumption) | assumption)); (have q113 : x3_1 < (l0.length : Int) := of_decide_eq_true (by first | (with_reducible assumption) | assumption)); (obtain ⟨ad113, e113, hx113_0, hx113_1, hx113_2, hx113_3, hx113_4, hx113_5⟩ := at_T46 HR0.out x3_1 p113 q113); (cases e113); (replace hx113_0 := c1_ HB hx113_0); (replace hx113_1 := c1_ HB hx113_1); (replace hx113_2 := c1_ HB hx113_2); (replace hx113_3 := c1_ HB hx113_3); (replace hx113_4 := c1_ HB hx113_4); (replace hx113_5 := c1_ HB hx113_5); (replace p113 := eq_true p113); (replace q113 := eq_true q113)
          go_wp2_with (first | ((with_reducible refine gate_callee (f := 60) rfl ?_); refine goesL_ (some 30) rfl rfl Try.func60 (by kernel_rfl) rfl #[.agg #[.int .u8 ((rd_T46 l0 x3_1).f0), .int .i64 ((rd_T46 l0 x3_1).f1), .string ((rd_T46 l0 x3_1).f2), .string ((rd_T46 l0 x3_1).f3), .string ((rd_T46 l0 x3_1).f4), .int .u64 ((rd_T46 l0 x3_1).f5)]] rfl (by (try simp only [List.map_toArray, List.map_cons, List.map_nil]); first | done | rfl) ?_; (with_reducible refine (catchmentref04_Span.calls ((rd_T46 l0 x3_1).f0) ((rd_T46 l0 x3_1).f1) ((rd_T46 l0 x3_1).f2) ((rd_T46 l0 x3_1).f3) ((rd_T46 l0 x3_1).f4) ((rd_T46 l0 x3_1).f5) t114 t115 _ A9.out).mono ?_); rintro e w59 ⟨rfl, hb⟩; refine ⟨_, rfl, ?_⟩; have n0_ := Aside0.mk (below_step (q9_0) hb); clear HB; have HB := n0_; clear n0_; (try clear hb); (try clear hb2); (try clear hk); (try clear hi)) | ((with_reducible refine gate_callee (f := 52) rfl ?_); refine goesL_ (some 31) rfl rfl Try.func52 (by kernel_rfl) rfl #[.agg #[.string t114, .string t115]] rfl (by (try simp only [List.map_toArray, List.map_cons, List.map_nil]); first | done | rfl) ?_; (with_reducible refine (catchmentref02_Right.calls t114 t115 false _ A10.out).mono ?_); rintro e w60 ⟨rfl, hb⟩; refine ⟨_, rfl, ?_⟩; have n0_ := Aside0.mk (below_step (q9_0) hb); clear HB; have HB := n0_; clear n0_; (try clear hb); (try clear hb2); (try clear hk); (try clear hi)))
          (go_ret); (exact ⟨by first | rfl | (simp [*, errW_none, errW_some] <;> rfl), q9_0⟩)
        ·rw [if_neg c8] at H
         exact absurd H (by simp)
       ·rw [if_neg c7] at H
        exact absurd H (by simp)
   ·rw [if_neg c2] at H
    (have c2b0 : decide (x3_1 < (l0.length : Int)) = false := decide_eq_false c2); (clear c2); (obtain rfl := Option.some.inj H); (go_wp2); (go_ret); (exact ⟨by first | rfl | (simp [*, errW_none, errW_some] <;> rfl), q9_0⟩)

end Go.Proofs.Ytnklnjghecmihaa.L2
