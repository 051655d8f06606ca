/- tight -/ -- written by wip/myprint.py
import Derived.Test.YtnklnjghecmihaaL2x0
import Derived.Test.YtnklnjghecmihaaL2x17
import Derived.Test.YtnklnjghecmihaaL2P0
import Derived.Test.YtnklnjghecmihaaL2x30
import Derived.Test.YtnklnjghecmihaaL2x38
namespace Go.Proofs.Ytnklnjghecmihaa.L2
open Go.RowKit Go.Proofs.YtnklnjghecmihaaW PrintWords PrintLast PrintMore Mine
attribute [local go_sem] max2_int min2_int max_two min_two max_three min_three max_four min_four max2_str min2_str binOp_gtr_str binOp_leq_str binOp_geq_str
set_option linter.unusedVariables false
set_option linter.unusedSimpArgs false
theorem q39_0 {P : Prop} (h : P := by (with_reducible repeat first | exact HB.out | apply y1_ | apply y2_ | apply y3_) <;> exact HB.out) : P := h
theorem q39_1 {P : Prop} (h : P := by (with_reducible repeat first | apply z1_ | apply z2_ | apply z3_); refine blk_put (cs := #[.int .u8 ((rd_T46 l0 x7_1).f0), .int .i64 ((rd_T46 l0 x7_1).f1), .string ((rd_T46 l0 x7_1).f2), .string ((rd_T46 l0 x7_1).f3), .string ((rd_T46 l0 x7_1).f4), .int .u64 0]) ?_ 5 _ rfl; (with_reducible repeat first | apply z1_ | apply z2_ | apply z3_); refine blk_put (cs := #[.int .u8 ((rd_T46 l0 x7_1).f0), .int .i64 ((rd_T46 l0 x7_1).f1), .string ((rd_T46 l0 x7_1).f2), .string ((rd_T46 l0 x7_1).f3), .string ⟨#[]⟩, .int .u64 0]) ?_ 4 _ rfl; (with_reducible repeat first | apply z1_ | apply z2_ | apply z3_); refine blk_put (cs := #[.int .u8 ((rd_T46 l0 x7_1).f0), .int .i64 ((rd_T46 l0 x7_1).f1), .string ((rd_T46 l0 x7_1).f2), .string ⟨#[]⟩, .string ⟨#[]⟩, .int .u64 0]) ?_ 3 _ rfl; (with_reducible repeat first | apply z1_ | apply z2_ | apply z3_); refine blk_put (cs := #[.int .u8 ((rd_T46 l0 x7_1).f0), .int .i64 ((rd_T46 l0 x7_1).f1), .string ⟨#[]⟩, .string ⟨#[]⟩, .string ⟨#[]⟩, .int .u64 0]) ?_ 2 _ rfl; (with_reducible repeat first | apply z1_ | apply z2_ | apply z3_); refine blk_put (cs := #[.int .u8 ((rd_T46 l0 x7_1).f0), .int .i64 0, .string ⟨#[]⟩, .string ⟨#[]⟩, .string ⟨#[]⟩, .int .u64 0]) ?_ 1 _ rfl; (with_reducible repeat first | apply z1_ | apply z2_ | apply z3_); refine blk_put (cs := #[.int .u8 0, .int .i64 0, .string ⟨#[]⟩, .string ⟨#[]⟩, .string ⟨#[]⟩, .int .u64 0]) ?_ 0 _ rfl; (with_reducible repeat first | apply z1_ | apply z2_ | apply z3_); exact BK275.out) : P := h
theorem q39_2 {P : Prop} (h : P := by (with_reducible repeat first | exact HB.out | apply y1_ | apply y2_ | apply y3_ | refine y4_ ?_ GE275.out) <;> exact HB.out) : P := h
theorem q39_3 {P : Prop} (h : P := by (with_reducible repeat first | apply z1_ | apply z2_ | apply z3_); exact BK275.out) : P := h
theorem q39_4 {P : Prop} (h : P := by rintro w' ⟨s0, s1, s2, s3, s4, s5, s6, s7, s8, s9, s10, s11⟩; go_simp; with_reducible rfl) : P := h
theorem q39_5 {P : Prop} (h : P := by rintro w' ⟨s0, s1, s2, s3, s4, s5, s6, s7, s8, s9, s10, s11, s12, s13, s14, s15, s16, s17, s18, s19, s20, s21, s22, s23⟩; go_simp; with_reducible rfl) : P := h
theorem q39_6 {P : Prop} (h : P := by exact ⟨(b_ BK275 0), (b_ BK275 1), (b_ BK275 2), (b_ BK275 3), (b_ BK275 4), (b_ BK275 5), (c1_ HB hw280_0), (c1_ HB hw280_1), (c1_ HB hw280_2), (c1_ HB hw280_3), (c1_ HB hw280_4), (c1_ HB hw280_5), (c1_ HB hw282_0), (c1_ HB hw282_1), (c1_ HB hw282_2), (c1_ HB hw282_3), (c1_ HB hw282_4), (c1_ HB hw282_5), (c1_ HB hw283_0), (c1_ HB hw283_1), (c1_ HB hw283_2), (c1_ HB hw283_3), (c1_ HB hw283_4), (c1_ HB hw283_5)⟩) : P := h
theorem q39_7 {P : Prop} (h : P := by rintro w' ⟨s0, s1, s2, s3, s4, s5, s6, s7, s8, s9, s10, s11, s12, s13, s14, s15, s16, s17⟩; go_simp; with_reducible rfl) : P := h

/-! ### buffer_Right: function 35 -/
mutual
def buffer_Right.l0 : Nat → List (S46) → List (S46) → Int → Int → Option (Bool)
 | 0, _, _, _, _ => none
 | k + 1, x0, x5, x6, x7 => if x7 < x6 then (if 0 ≤ x7 then (if x7 < (x5.length : Int) then ((msg_IsPoint.f ((rd_T46 x5 x7).f0) ((rd_T46 x5 x7).f1) ((rd_T46 x5 x7).f2) ((rd_T46 x5 x7).f3) ((rd_T46 x5 x7).f4) ((rd_T46 x5 x7).f5)).bind fun t276 => (if t276 = true then (buffer_Right.j1 k x0 x7 x5 x6 x7 false ((rd_T46 x5 x7).f0) ((rd_T46 x5 x7).f1) ((rd_T46 x5 x7).f2) ((rd_T46 x5 x7).f3) ((rd_T46 x5 x7).f4) ((rd_T46 x5 x7).f5)) else (if ((rd_T46 x5 x7).f0) = 4 then ((msg_Span.f ((rd_T46 x5 x7).f0) ((rd_T46 x5 x7).f1) ((rd_T46 x5 x7).f2) ((rd_T46 x5 x7).f3) ((rd_T46 x5 x7).f4) ((rd_T46 x5 x7).f5)).bind fun bt277 => ((key_RightRange.f bt277.1 bt277.2).bind fun t279 => (buffer_Right.j1 k x0 x7 x5 x6 x7 (!t279) ((rd_T46 x5 x7).f0) ((rd_T46 x5 x7).f1) ((rd_T46 x5 x7).f2) ((rd_T46 x5 x7).f3) ((rd_T46 x5 x7).f4) ((rd_T46 x5 x7).f5)))) else (buffer_Right.j1 k x0 x7 x5 x6 x7 true ((rd_T46 x5 x7).f0) ((rd_T46 x5 x7).f1) ((rd_T46 x5 x7).f2) ((rd_T46 x5 x7).f3) ((rd_T46 x5 x7).f4) ((rd_T46 x5 x7).f5))))) else (none)) else (none)) else (some true)
def buffer_Right.j1 : Nat → List (S46) → Int → List (S46) → Int → Int → Bool → Int → Int → ByteArray → ByteArray → ByteArray → Int → Option (Bool)
 | 0, _, _, _, _, _, _, _, _, _, _, _, _ => none
 | k + 1, x0, x3, x5, x6, x7, x25, x276000, x276001, x276002, x276003, x276004, x276005 => if x25 = true then (some false) else (if x3 > 0 then (if 0 ≤ (wrap64 (x3 - 1)) then (if (wrap64 (x3 - 1)) < (x0.length : Int) then ((buffer_order.f k ((rd_T46 x0 (wrap64 (x3 - 1))).f0) ((rd_T46 x0 (wrap64 (x3 - 1))).f1) ((rd_T46 x0 (wrap64 (x3 - 1))).f2) ((rd_T46 x0 (wrap64 (x3 - 1))).f3) ((rd_T46 x0 (wrap64 (x3 - 1))).f4) ((rd_T46 x0 (wrap64 (x3 - 1))).f5) x276000 x276001 x276002 x276003 x276004 x276005).bind fun t281 => (if t281 ≥ 0 then (buffer_Right.j2 k x0 x5 x6 x7 true) else (if ((rd_T46 x0 (wrap64 (x3 - 1))).f1) = x276001 then ((buffer_apart.f ((rd_T46 x0 (wrap64 (x3 - 1))).f0) ((rd_T46 x0 (wrap64 (x3 - 1))).f1) ((rd_T46 x0 (wrap64 (x3 - 1))).f2) ((rd_T46 x0 (wrap64 (x3 - 1))).f3) ((rd_T46 x0 (wrap64 (x3 - 1))).f4) ((rd_T46 x0 (wrap64 (x3 - 1))).f5) x276000 x276001 x276002 x276003 x276004 x276005).bind fun t284 => (buffer_Right.j2 k x0 x5 x6 x7 (!t284))) else (buffer_Right.j2 k x0 x5 x6 x7 false)))) else (none)) else (none)) else (buffer_Right.j2 k x0 x5 x6 x7 false))
def buffer_Right.j2 : Nat → List (S46) → List (S46) → Int → Int → Bool → Option (Bool)
 | 0, _, _, _, _, _ => none
 | k + 1, x0, x5, x6, x7, x58 => if x58 = true then (some false) else (buffer_Right.l0 k x0 x5 x6 (wrap64 (x7 + 1)))
end
def buffer_Right.f (k : Nat) (l0 : List (S46)) : Option (Bool) := buffer_Right.l0 k l0 l0 (l0.length : Int) 0
theorem buffer_Right.mono_l : ∀ k, (∀ y0 y1 y2 y3, LeO (buffer_Right.l0 k y0 y1 y2 y3) (buffer_Right.l0 (k + 1) y0 y1 y2 y3)) ∧ (∀ y0 y1 y2 y3 y4 y5 y6 y7 y8 y9 y10 y11, LeO (buffer_Right.j1 k y0 y1 y2 y3 y4 y5 y6 y7 y8 y9 y10 y11) (buffer_Right.j1 (k + 1) y0 y1 y2 y3 y4 y5 y6 y7 y8 y9 y10 y11)) ∧ (∀ y0 y1 y2 y3 y4, LeO (buffer_Right.j2 k y0 y1 y2 y3 y4) (buffer_Right.j2 (k + 1) y0 y1 y2 y3 y4))
 | 0 => ⟨fun _ _ _ _ r h => by simp [buffer_Right.l0] at h, fun _ _ _ _ _ _ _ _ _ _ _ _ r h => by simp [buffer_Right.j1] at h, fun _ _ _ _ _ r h => by simp [buffer_Right.j2] at h⟩
 | k + 1 => by
  obtain ⟨ih0, ih1, ih2⟩ := buffer_Right.mono_l k
  refine ⟨?_, ?_, ?_⟩
  ·intro y0 y1 y2 y3
   unfold buffer_Right.l0
   repeat' (with_reducible first | exact ih0 _ _ _ _ | exact ih1 _ _ _ _ _ _ _ _ _ _ _ _ | exact ih2 _ _ _ _ _ | exact buffer_order.mono _ _ _ _ _ _ _ _ _ _ _ _ _ | exact LeO.refl _ | exact LeO.none _ | refine LeO.ite ?_ ?_ | refine LeO.bind ?_ (fun _ => ?_))
  ·intro y0 y1 y2 y3 y4 y5 y6 y7 y8 y9 y10 y11
   unfold buffer_Right.j1
   repeat' (with_reducible first | exact ih0 _ _ _ _ | exact ih1 _ _ _ _ _ _ _ _ _ _ _ _ | exact ih2 _ _ _ _ _ | exact buffer_order.mono _ _ _ _ _ _ _ _ _ _ _ _ _ | exact LeO.refl _ | exact LeO.none _ | refine LeO.ite ?_ ?_ | refine LeO.bind ?_ (fun _ => ?_))
  ·intro y0 y1 y2 y3 y4
   unfold buffer_Right.j2
   repeat' (with_reducible first | exact ih0 _ _ _ _ | exact ih1 _ _ _ _ _ _ _ _ _ _ _ _ | exact ih2 _ _ _ _ _ | exact buffer_order.mono _ _ _ _ _ _ _ _ _ _ _ _ _ | exact LeO.refl _ | exact LeO.none _ | refine LeO.ite ?_ ?_ | refine LeO.bind ?_ (fun _ => ?_))
theorem buffer_Right.mono : ∀ a0 k, LeO (buffer_Right.f k a0) (buffer_Right.f (k + 1) a0) := by
 (intro a0 k); (obtain ⟨ih0, ih1, ih2⟩ := buffer_Right.mono_l k); (unfold buffer_Right.f)
 repeat' (with_reducible first | exact ih0 _ _ _ _ | exact ih1 _ _ _ _ _ _ _ _ _ _ _ _ | exact ih2 _ _ _ _ _ | exact buffer_order.mono _ _ _ _ _ _ _ _ _ _ _ _ _ | exact LeO.refl _ | exact LeO.none _ | refine LeO.ite ?_ ?_ | refine LeO.bind ?_ (fun _ => ?_))
def buffer_Right.T6 : Bool × List (List Nat × List Nat) := (true, [([], []), ([0], [0]), ([1], [1]), ([2], [2]), ([2], [2]), ([4, 2], [2, 4]), ([3, 5, 2], [2, 3, 5]), ([6, 2], [2, 6]), ([2], [2]), ([7, 8, 2, 2], [2, 7, 8]), ([9, 2], [2, 9]), ([10, 9, 2], [2, 10]), ([11], [11]), ([11], [11]), ([13, 11], [11, 13]), ([12, 14, 11], [11, 12, 14]), ([15, 11], [11, 15]), ([16, 11], [11, 16]), ([11], [11]), ([18, 11], [11, 18]), ([17, 19, 11], [11, 17, 19]), ([20, 11, 11], [11, 20]), ([21], [21]), ([21], [21]), ([23, 21], [21, 23]), ([22, 24, 21], [21, 22, 24]), ([25, 21], [21, 25]), ([21], [21]), ([26, 27, 21, 21], [21, 26, 27]), ([28, 21], [21, 28]), ([21, 29, 11], [11, 21, 29]), ([11, 30, 2], [2, 11, 30]), ([2, 31], [2, 31])])
def buffer_Right.B6 : List Nat := [0, 1, 3, 7, 7, 23, 63, 127, 7, 511, 1023, 2047, 4095, 4095, 12287, 32767, 65535, 131071, 4095, 266239, 1048575, 2097151, 4194303, 4194303, 12582911, 33554431, 67108863, 4194303, 268435455, 536870911, 1073741823, 2147483647, 4294967295]
theorem buffer_Right.tab6 : rtab .any (opsOf Try.f35 6) = buffer_Right.T6 := by kernel_rfl
theorem buffer_Right.bits6 : waitsOk buffer_Right.T6.2 buffer_Right.B6 = true := by kernel_rfl
set_option maxHeartbeats 8000000 in
set_option maxRecDepth 100000 in
theorem buffer_Right.calls (k : Nat) (A0 : Option Addr) (c0 : Nat) (l0 : List (S46)) (r : Bool) (w : World) (hr0 : Kd.C k46 w A0 l0.length l0) (hc0 : l0.length ≤ c0) (h : buffer_Right.f k l0 = some r) :
  Calls Try.prog 35 #[.slice A0 l0.length c0] w fun e w' => e = .returned (.bool r) ∧ Below w.heap.size w w' := by
 (have hu46 := Try.underlying46); (have HR0 := Aside0.mk hr0); (have HC0 := Aside0.mk hc0); (clear hr0 hc0); (have HB := Aside0.mk (Below.refl w.heap.size w)); (have H : (buffer_Right.l0 k l0 l0 (l0.length : Int) 0) = some r := h); (clear h); (have H' := Aside0.mk H); (clear H); (go_enter Try.func35, Try.ntmps35); (go_wp2); (go_loopg [7] k (fun kq v7 w' => ∃ (x7_1 : Int), v7 = .int .i64 x7_1 ∧ Aside0 (buffer_Right.l0 kq l0 l0 (l0.length : Int) x7_1 = some r) ∧ Aside0 (kq ≤ k) ∧ Aside0 (Below w.heap.size w w')))
 case atStart => exact ⟨(0), (by first | rfl | (simp; done) | (simp [*]; done)), H', ⟨Nat.le_refl _⟩, ⟨q39_0⟩⟩
 case round =>
  (clear H'); (obtain ⟨x7_1, rfl, HA, HK1, HB⟩ := hrel)
  cases gk with
  | zero => exact absurd HA.out (by simp [buffer_Right.l0])
  | succ k1 =>
   (have H := HA.out); (clear HA); (simp only [buffer_Right.l0] at H); (by_cases c2 : x7_1 < (l0.length : Int))
   ·rw [if_pos c2] at H
    (have c2b0 : decide (x7_1 < (l0.length : Int)) = true := decide_eq_true c2); (clear c2); (by_cases c3 : 0 ≤ x7_1)
    ·rw [if_pos c3] at H
     (have c3b0 : decide (0 ≤ x7_1) = true := decide_eq_true c3); (clear c3); (by_cases c4 : x7_1 < (l0.length : Int))
     ·rw [if_pos c4] at H
      (have c4b0 : decide (x7_1 < (l0.length : Int)) = true := decide_eq_true c4); (clear c4); (have HC5 := Aside0.mk H); (clear H); (have p274 : 0 ≤ (x7_1 : Int) := of_decide_eq_true (by first | (with_reducible assumption) | assumption)); (have q274 : x7_1 < (l0.length : Int) := of_decide_eq_true (by first | (with_reducible assumption) | assumption)); (obtain ⟨ad274, e274, hx274_0, hx274_1, hx274_2, hx274_3, hx274_4, hx274_5⟩ := at_T46 HR0.out x7_1 p274 q274); (cases e274); (replace hx274_0 := c1_ HB hx274_0); (replace hx274_1 := c1_ HB hx274_1); (replace hx274_2 := c1_ HB hx274_2); (replace hx274_3 := c1_ HB hx274_3); (replace hx274_4 := c1_ HB hx274_4); (replace hx274_5 := c1_ HB hx274_5); (replace p274 := eq_true p274); (replace q274 := eq_true q274)
      go_upto_region 4 with (first | ((with_reducible refine gate_dst (N := 4) rfl ?_); refine box_event ?hg (N := 4) ?hd (cs := #[.int .u8 0, .int .i64 0, .string ⟨#[]⟩, .string ⟨#[]⟩, .string ⟨#[]⟩, .int .u64 0]) (t := 46) ?hr ?_; (case hd => rfl); (case hg => rfl); (case hr => first | (go_simp; done) | (go_simp; rfl)); intro gb275 hg w6 hbox hb; have BK275 := Aside0.mk (hbox); have GW275 := Aside0.mk (hs_ hg (q39_0)); replace HB := Aside0.mk (below_step (q39_0) hb); have GE275 := GW275; clear hb hbox hg; obtain ⟨hcz7_0, hcz7_1, hcz7_2, hcz7_3, hcz7_4, hcz7_5, hfz7_0, hfz7_1, hfz7_2, hfz7_3, hfz7_4, hfz7_5⟩ := bf6_ BK275))
      ((try simp only [Act.put, List.setIfInBounds_toArray, List.set_cons_zero, List.set_cons_succ])); (go_cut [25] (fun v25 wc => ∃ (kq : Nat) (x25_4 : Bool), v25 = .bool x25_4 ∧ Aside0 (buffer_Right.j1 kq l0 x7_1 l0 (l0.length : Int) x7_1 x25_4 ((rd_T46 l0 x7_1).f0) ((rd_T46 l0 x7_1).f1) ((rd_T46 l0 x7_1).f2) ((rd_T46 l0 x7_1).f3) ((rd_T46 l0 x7_1).f4) ((rd_T46 l0 x7_1).f5) = some r) ∧ Aside0 (kq ≤ k1) ∧ Aside0 (wc.heap[gb275]? = some (.cells #[.int .u8 ((rd_T46 l0 x7_1).f0), .int .i64 ((rd_T46 l0 x7_1).f1), .string ((rd_T46 l0 x7_1).f2), .string ((rd_T46 l0 x7_1).f3), .string ((rd_T46 l0 x7_1).f4), .int .u64 ((rd_T46 l0 x7_1).f5)] 46 (0, 0))) ∧ Aside0 (Below w.heap.size w wc)))
      case first =>
       (have H := HC5.out); (clear HC5); (replace H := Option.bind_eq_some_iff.mp H); (obtain ⟨t276, A80, H⟩ := H); (replace H : (if t276 = true then (buffer_Right.j1 k1 l0 x7_1 l0 (l0.length : Int) x7_1 false ((rd_T46 l0 x7_1).f0) ((rd_T46 l0 x7_1).f1) ((rd_T46 l0 x7_1).f2) ((rd_T46 l0 x7_1).f3) ((rd_T46 l0 x7_1).f4) ((rd_T46 l0 x7_1).f5)) else (if ((rd_T46 l0 x7_1).f0) = 4 then ((msg_Span.f ((rd_T46 l0 x7_1).f0) ((rd_T46 l0 x7_1).f1) ((rd_T46 l0 x7_1).f2) ((rd_T46 l0 x7_1).f3) ((rd_T46 l0 x7_1).f4) ((rd_T46 l0 x7_1).f5)).bind fun bt277 => ((key_RightRange.f bt277.1 bt277.2).bind fun t279 => (buffer_Right.j1 k1 l0 x7_1 l0 (l0.length : Int) x7_1 (!t279) ((rd_T46 l0 x7_1).f0) ((rd_T46 l0 x7_1).f1) ((rd_T46 l0 x7_1).f2) ((rd_T46 l0 x7_1).f3) ((rd_T46 l0 x7_1).f4) ((rd_T46 l0 x7_1).f5)))) else (buffer_Right.j1 k1 l0 x7_1 l0 (l0.length : Int) x7_1 true ((rd_T46 l0 x7_1).f0) ((rd_T46 l0 x7_1).f1) ((rd_T46 l0 x7_1).f2) ((rd_T46 l0 x7_1).f3) ((rd_T46 l0 x7_1).f4) ((rd_T46 l0 x7_1).f5)))) = some r := H); (have A8 := Aside0.mk A80); (clear A80); (by_cases c9 : t276 = true)
       ·subst c9
        (have H1 : (buffer_Right.j1 k1 l0 x7_1 l0 (l0.length : Int) x7_1 false ((rd_T46 l0 x7_1).f0) ((rd_T46 l0 x7_1).f1) ((rd_T46 l0 x7_1).f2) ((rd_T46 l0 x7_1).f3) ((rd_T46 l0 x7_1).f4) ((rd_T46 l0 x7_1).f5)) = some r := by rw [if_pos rfl] at H; exact H); (clear H); (have H := H1); (clear H1); (have H' := Aside0.mk H); (clear H); (have hcz10_0 : w6.cell? ⟨gb275, 0, none⟩ = some (.int .u8 0) := (b_ BK275 0)); (have hcz10_1 : w6.cell? ⟨gb275, 1, none⟩ = some (.int .i64 0) := (b_ BK275 1)); (have hcz10_2 : w6.cell? ⟨gb275, 2, none⟩ = some (.string ⟨#[]⟩) := (b_ BK275 2)); (have hcz10_3 : w6.cell? ⟨gb275, 3, none⟩ = some (.string ⟨#[]⟩) := (b_ BK275 3)); (have hcz10_4 : w6.cell? ⟨gb275, 4, none⟩ = some (.string ⟨#[]⟩) := (b_ BK275 4)); (have hcz10_5 : w6.cell? ⟨gb275, 5, none⟩ = some (.int .u64 0) := (b_ BK275 5)); (have hfz10_0 := blk_frozen BK275.out 0); (have hfz10_1 := blk_frozen BK275.out 1); (have hfz10_2 := blk_frozen BK275.out 2); (have hfz10_3 := blk_frozen BK275.out 3); (have hfz10_4 := blk_frozen BK275.out 4)
        have hfz10_5 := blk_frozen BK275.out 5
        go_wp2_with (first | ((with_reducible refine gate_callee (f := 97) rfl ?_); refine goesL_ (some 13) rfl rfl Try.func97 (by kernel_rfl) rfl #[.agg #[.int .u8 ((rd_T46 l0 x7_1).f0), .int .i64 ((rd_T46 l0 x7_1).f1), .string ((rd_T46 l0 x7_1).f2), .string ((rd_T46 l0 x7_1).f3), .string ((rd_T46 l0 x7_1).f4), .int .u64 ((rd_T46 l0 x7_1).f5)]] rfl (by (try simp only [List.map_toArray, List.map_cons, List.map_nil]); first | done | rfl) ?_; (with_reducible refine (msg_IsPoint.calls ((rd_T46 l0 x7_1).f0) ((rd_T46 l0 x7_1).f1) ((rd_T46 l0 x7_1).f2) ((rd_T46 l0 x7_1).f3) ((rd_T46 l0 x7_1).f4) ((rd_T46 l0 x7_1).f5) true _ A8.out).mono ?_); rintro e w11 ⟨rfl, hb⟩; refine ⟨_, rfl, ?_⟩; replace BK275 := Aside0.mk (blk_below (g := gb275) (o := .cells #[.int .u8 ((rd_T46 l0 x7_1).f0), .int .i64 ((rd_T46 l0 x7_1).f1), .string ((rd_T46 l0 x7_1).f2), .string ((rd_T46 l0 x7_1).f3), .string ((rd_T46 l0 x7_1).f4), .int .u64 ((rd_T46 l0 x7_1).f5)] 46 (0, 0)) (q39_1) hb); replace HB := Aside0.mk (below_step (q39_2) hb); (try clear hb); (try clear hb2); (try clear hk); (try clear hi)))
        go_meet
        case rel => exact ⟨_, (false), (by first | rfl | (simp; done) | (simp [*]; done)), H', ⟨by have := HK1.out; first | omega | exact Nat.le_refl _⟩, ⟨q39_3⟩, ⟨q39_2⟩⟩
       ·replace c9 := Bool.eq_false_iff.mpr c9
        (subst c9); (have H1 : (if ((rd_T46 l0 x7_1).f0) = 4 then ((msg_Span.f ((rd_T46 l0 x7_1).f0) ((rd_T46 l0 x7_1).f1) ((rd_T46 l0 x7_1).f2) ((rd_T46 l0 x7_1).f3) ((rd_T46 l0 x7_1).f4) ((rd_T46 l0 x7_1).f5)).bind fun bt277 => ((key_RightRange.f bt277.1 bt277.2).bind fun t279 => (buffer_Right.j1 k1 l0 x7_1 l0 (l0.length : Int) x7_1 (!t279) ((rd_T46 l0 x7_1).f0) ((rd_T46 l0 x7_1).f1) ((rd_T46 l0 x7_1).f2) ((rd_T46 l0 x7_1).f3) ((rd_T46 l0 x7_1).f4) ((rd_T46 l0 x7_1).f5)))) else (buffer_Right.j1 k1 l0 x7_1 l0 (l0.length : Int) x7_1 true ((rd_T46 l0 x7_1).f0) ((rd_T46 l0 x7_1).f1) ((rd_T46 l0 x7_1).f2) ((rd_T46 l0 x7_1).f3) ((rd_T46 l0 x7_1).f4) ((rd_T46 l0 x7_1).f5))) = some r := by rw [if_neg (show ¬ (false = true) by decide)] at H; exact H); (clear H); (have H := H1); (clear H1); (by_cases c12 : ((rd_T46 l0 x7_1).f0) = 4)
        ·rw [if_pos c12] at H
         (have c12b0 : (((rd_T46 l0 x7_1).f0) == 4) = true := beq_iff_eq.mpr c12); (have c12b1 : (((rd_T46 l0 x7_1).f0) != 4) = false := bne_eq_false_iff_eq.mpr c12); (clear c12); ((first | rw [c12b0] | (simp only [i64_w, i32_w]; rw [c12b0]) | skip)); (replace H := Option.bind_eq_some_iff.mp H); (obtain ⟨⟨t277, t278⟩, A130, H⟩ := H); (replace H : ((key_RightRange.f t277 t278).bind fun t279 => (buffer_Right.j1 k1 l0 x7_1 l0 (l0.length : Int) x7_1 (!t279) ((rd_T46 l0 x7_1).f0) ((rd_T46 l0 x7_1).f1) ((rd_T46 l0 x7_1).f2) ((rd_T46 l0 x7_1).f3) ((rd_T46 l0 x7_1).f4) ((rd_T46 l0 x7_1).f5))) = some r := H); (have A13 := Aside0.mk A130); (clear A130); (replace H := Option.bind_eq_some_iff.mp H); (obtain ⟨t279, A140, H⟩ := H); (replace H : (buffer_Right.j1 k1 l0 x7_1 l0 (l0.length : Int) x7_1 (!t279) ((rd_T46 l0 x7_1).f0) ((rd_T46 l0 x7_1).f1) ((rd_T46 l0 x7_1).f2) ((rd_T46 l0 x7_1).f3) ((rd_T46 l0 x7_1).f4) ((rd_T46 l0 x7_1).f5)) = some r := H); (have A14 := Aside0.mk A140); (clear A140); (have H' := Aside0.mk H); (clear H); (obtain ⟨hcz15_0, hcz15_1, hcz15_2, hcz15_3, hcz15_4, hcz15_5, hfz15_0, hfz15_1, hfz15_2, hfz15_3, hfz15_4, hfz15_5⟩ := bf6_ BK275)
         go_wp2_with (first | ((with_reducible refine gate_callee (f := 97) rfl ?_); refine goesL_ (some 13) rfl rfl Try.func97 (by kernel_rfl) rfl #[.agg #[.int .u8 ((rd_T46 l0 x7_1).f0), .int .i64 ((rd_T46 l0 x7_1).f1), .string ((rd_T46 l0 x7_1).f2), .string ((rd_T46 l0 x7_1).f3), .string ((rd_T46 l0 x7_1).f4), .int .u64 ((rd_T46 l0 x7_1).f5)]] rfl (by (try simp only [List.map_toArray, List.map_cons, List.map_nil]); first | done | rfl) ?_; (with_reducible refine (msg_IsPoint.calls ((rd_T46 l0 x7_1).f0) ((rd_T46 l0 x7_1).f1) ((rd_T46 l0 x7_1).f2) ((rd_T46 l0 x7_1).f3) ((rd_T46 l0 x7_1).f4) ((rd_T46 l0 x7_1).f5) false _ A8.out).mono ?_); rintro e w16 ⟨rfl, hb⟩; refine ⟨_, rfl, ?_⟩; replace BK275 := Aside0.mk (blk_below (g := gb275) (o := .cells #[.int .u8 ((rd_T46 l0 x7_1).f0), .int .i64 ((rd_T46 l0 x7_1).f1), .string ((rd_T46 l0 x7_1).f2), .string ((rd_T46 l0 x7_1).f3), .string ((rd_T46 l0 x7_1).f4), .int .u64 ((rd_T46 l0 x7_1).f5)] 46 (0, 0)) (q39_1) hb); replace HB := Aside0.mk (below_step (q39_2) hb); (try clear hb); (try clear hb2); (try clear hk); (try clear hi); obtain ⟨hcz17_0, hcz17_1, hcz17_2, hcz17_3, hcz17_4, hcz17_5, hfz17_0, hfz17_1, hfz17_2, hfz17_3, hfz17_4, hfz17_5⟩ := bf6_ BK275) | (go_at_call 99; (with_reducible refine (msg_Span.calls ((rd_T46 l0 x7_1).f0) ((rd_T46 l0 x7_1).f1) ((rd_T46 l0 x7_1).f2) ((rd_T46 l0 x7_1).f3) ((rd_T46 l0 x7_1).f4) ((rd_T46 l0 x7_1).f5) t277 t278 _ A13.out).mono ?_); rintro e w18 ⟨rfl, hb⟩; replace BK275 := Aside0.mk (blk_below (q39_3) hb); replace HB := Aside0.mk (below_step (q39_2) hb); (try clear hb); (try clear hb2); (try clear hk); (try clear hi)) | (go_at_call 98; (with_reducible refine (key_RightRange.calls t277 t278 t279 _ A14.out).mono ?_); rintro e w19 ⟨rfl, hb⟩; replace BK275 := Aside0.mk (blk_below (q39_3) hb); replace HB := Aside0.mk (below_step (q39_2) hb); (try clear hb); (try clear hb2); (try clear hk); (try clear hi)))
         go_meet
         case rel => exact ⟨_, (!t279), (by first | rfl | (simp; done) | (simp [*]; done)), H', ⟨by have := HK1.out; first | omega | exact Nat.le_refl _⟩, ⟨q39_3⟩, ⟨q39_2⟩⟩
        ·rw [if_neg c12] at H
         (have c12b0 : (((rd_T46 l0 x7_1).f0) == 4) = false := beq_eq_false_iff_ne.mpr c12); (have c12b1 : (((rd_T46 l0 x7_1).f0) != 4) = true := bne_iff_ne.mpr c12); ((first | rw [c12b0] | (simp only [i64_w, i32_w]; rw [c12b0]) | skip)); (have H' := Aside0.mk H); (clear H); (obtain ⟨hcz20_0, hcz20_1, hcz20_2, hcz20_3, hcz20_4, hcz20_5, hfz20_0, hfz20_1, hfz20_2, hfz20_3, hfz20_4, hfz20_5⟩ := bf6_ BK275)
         go_wp2_with (first | ((with_reducible refine gate_callee (f := 97) rfl ?_); refine goesL_ (some 13) rfl rfl Try.func97 (by kernel_rfl) rfl #[.agg #[.int .u8 ((rd_T46 l0 x7_1).f0), .int .i64 ((rd_T46 l0 x7_1).f1), .string ((rd_T46 l0 x7_1).f2), .string ((rd_T46 l0 x7_1).f3), .string ((rd_T46 l0 x7_1).f4), .int .u64 ((rd_T46 l0 x7_1).f5)]] rfl (by (try simp only [List.map_toArray, List.map_cons, List.map_nil]); first | done | rfl) ?_; (with_reducible refine (msg_IsPoint.calls ((rd_T46 l0 x7_1).f0) ((rd_T46 l0 x7_1).f1) ((rd_T46 l0 x7_1).f2) ((rd_T46 l0 x7_1).f3) ((rd_T46 l0 x7_1).f4) ((rd_T46 l0 x7_1).f5) false _ A8.out).mono ?_); rintro e w21 ⟨rfl, hb⟩; refine ⟨_, rfl, ?_⟩; replace BK275 := Aside0.mk (blk_below (g := gb275) (o := .cells #[.int .u8 ((rd_T46 l0 x7_1).f0), .int .i64 ((rd_T46 l0 x7_1).f1), .string ((rd_T46 l0 x7_1).f2), .string ((rd_T46 l0 x7_1).f3), .string ((rd_T46 l0 x7_1).f4), .int .u64 ((rd_T46 l0 x7_1).f5)] 46 (0, 0)) (q39_1) hb); replace HB := Aside0.mk (below_step (q39_2) hb); (try clear hb); (try clear hb2); (try clear hk); (try clear hi); obtain ⟨hcz22_0, hcz22_1, hcz22_2, hcz22_3, hcz22_4, hcz22_5, hfz22_0, hfz22_1, hfz22_2, hfz22_3, hfz22_4, hfz22_5⟩ := bf6_ BK275))
         go_meet
         case rel => exact ⟨_, (true), (by first | rfl | (simp; done) | (simp [*]; done)), H', ⟨by have := HK1.out; first | omega | exact Nat.le_refl _⟩, ⟨q39_3⟩, ⟨q39_2⟩⟩
      case rest =>
       (clear HC5); (try clear c1); (try clear c2); (try clear c2b0); (try clear p2); (try clear q2); (try clear hx2); (try clear c3); (try clear c3b0); (try clear c4); (try clear c4b0); (try clear c9); (try clear c12); (try clear c12b0); (try clear c12b1); (try clear hcz10_0); (try clear hcz10_1); (try clear hcz10_2); (try clear hcz10_3); (try clear hcz10_4); (try clear hcz10_5); (try clear hcz15_0); (try clear hcz15_1); (try clear hcz15_2); (try clear hcz15_3); (try clear hcz15_4); (try clear hcz15_5); (try clear hcz17_0); (try clear hcz17_1); (try clear hcz17_2); (try clear hcz17_3); (try clear hcz17_4); (try clear hcz17_5); (try clear hcz20_0); (try clear hcz20_1); (try clear hcz20_2); (try clear hcz20_3); (try clear hcz20_4); (try clear hcz20_5); (try clear hcz22_0); (try clear hcz22_1); (try clear hcz22_2); (try clear hcz22_3); (try clear hcz22_4); (try clear hcz22_5); (try clear hcz7_0); (try clear hcz7_1); (try clear hcz7_2); (try clear hcz7_3); (try clear hcz7_4); (try clear hcz7_5); (try clear hfz10_0); (try clear hfz10_1); (try clear hfz10_2); (try clear hfz10_3); (try clear hfz10_4); (try clear hfz10_5); (try clear hfz15_0); (try clear hfz15_1); (try clear hfz15_2)
       (try clear hfz15_3); (try clear hfz15_4); (try clear hfz15_5); (try clear hfz17_0); (try clear hfz17_1); (try clear hfz17_2); (try clear hfz17_3); (try clear hfz17_4); (try clear hfz17_5); (try clear hfz20_0); (try clear hfz20_1); (try clear hfz20_2); (try clear hfz20_3); (try clear hfz20_4); (try clear hfz20_5); (try clear hfz22_0); (try clear hfz22_1); (try clear hfz22_2); (try clear hfz22_3); (try clear hfz22_4); (try clear hfz22_5); (try clear hfz7_0); (try clear hfz7_1); (try clear hfz7_2); (try clear hfz7_3); (try clear hfz7_4); (try clear hfz7_5); (try clear hx274_0); (try clear hx274_1); (try clear hx274_2); (try clear hx274_3); (try clear hx274_4); (try clear hx274_5); (try clear p274); (try clear q274); (obtain ⟨kq, x25_4, rfl, HA, HJ4, BK275, HB⟩ := hcut)
       cases kq with
       | zero => exact absurd HA.out (by simp [buffer_Right.j1])
       | succ kj4 =>
        (have H := HA.out); (clear HA); (simp only [buffer_Right.j1] at H); (by_cases c23 : x25_4 = true)
        ·subst c23
         (have H1 : (some false) = some r := by rw [if_pos rfl] at H; exact H); (clear H); (have H := H1); (clear H1); (obtain rfl := Option.some.inj H); (go_wp2); (go_ret); (exact ⟨by first | rfl | (simp [*, errW_none, errW_some] <;> rfl), q39_2⟩)
        ·replace c23 := Bool.eq_false_iff.mpr c23
         subst c23
         have H1 : (if x7_1 > 0 then (if 0 ≤ (wrap64 (x7_1 - 1)) then (if (wrap64 (x7_1 - 1)) < (l0.length : Int) then ((buffer_order.f kj4 ((rd_T46 l0 (wrap64 (x7_1 - 1))).f0) ((rd_T46 l0 (wrap64 (x7_1 - 1))).f1) ((rd_T46 l0 (wrap64 (x7_1 - 1))).f2) ((rd_T46 l0 (wrap64 (x7_1 - 1))).f3) ((rd_T46 l0 (wrap64 (x7_1 - 1))).f4) ((rd_T46 l0 (wrap64 (x7_1 - 1))).f5) ((rd_T46 l0 x7_1).f0) ((rd_T46 l0 x7_1).f1) ((rd_T46 l0 x7_1).f2) ((rd_T46 l0 x7_1).f3) ((rd_T46 l0 x7_1).f4) ((rd_T46 l0 x7_1).f5)).bind fun t281 => (if t281 ≥ 0 then (buffer_Right.j2 kj4 l0 l0 (l0.length : Int) x7_1 true) else (if ((rd_T46 l0 (wrap64 (x7_1 - 1))).f1) = ((rd_T46 l0 x7_1).f1) then ((buffer_apart.f ((rd_T46 l0 (wrap64 (x7_1 - 1))).f0) ((rd_T46 l0 (wrap64 (x7_1 - 1))).f1) ((rd_T46 l0 (wrap64 (x7_1 - 1))).f2) ((rd_T46 l0 (wrap64 (x7_1 - 1))).f3) ((rd_T46 l0 (wrap64 (x7_1 - 1))).f4) ((rd_T46 l0 (wrap64 (x7_1 - 1))).f5) ((rd_T46 l0 x7_1).f0) ((rd_T46 l0 x7_1).f1) ((rd_T46 l0 x7_1).f2) ((rd_T46 l0 x7_1).f3) ((rd_T46 l0 x7_1).f4) ((rd_T46 l0 x7_1).f5)).bind fun t284 => (buffer_Right.j2 kj4 l0 l0 (l0.length : Int) x7_1 (!t284))) else (buffer_Right.j2 kj4 l0 l0 (l0.length : Int) x7_1 false)))) else (none)) else (none)) else (buffer_Right.j2 kj4 l0 l0 (l0.length : Int) x7_1 false)) = some r := by rw [if_neg (show ¬ (false = true) by decide)] at H; exact H
         (clear H); (have H := H1); (clear H1); (have HC24 := Aside0.mk H); (clear H); (go_upto_region 6 with (fail)); (go_cut [58] (fun v58 wc => ∃ (kq : Nat) (x58_23 : Bool), v58 = .bool x58_23 ∧ Aside0 (buffer_Right.j2 kq l0 l0 (l0.length : Int) x7_1 x58_23 = some r) ∧ Aside0 (kq ≤ kj4) ∧ Aside0 (wc.heap[gb275]? = some (.cells #[.int .u8 ((rd_T46 l0 x7_1).f0), .int .i64 ((rd_T46 l0 x7_1).f1), .string ((rd_T46 l0 x7_1).f2), .string ((rd_T46 l0 x7_1).f3), .string ((rd_T46 l0 x7_1).f4), .int .u64 ((rd_T46 l0 x7_1).f5)] 46 (0, 0))) ∧ Aside0 (Below w.heap.size w wc)))
         case first =>
          (have H := HC24.out); (clear HC24); (by_cases c25 : x7_1 > 0)
          ·rw [if_pos c25] at H
           (have c25b0 : decide (0 < x7_1) = true := decide_eq_true c25); (clear c25); ((first | rw [c25b0] | (simp only [i64_w, i32_w]; rw [c25b0]) | skip)); (obtain ⟨ji26, hji26⟩ : ∃ j_ : Int, (wrap64 (x7_1 - 1)) = j_ := ⟨_, rfl⟩)
           (replace H : (if 0 ≤ (ji26) then (if (ji26) < (l0.length : Int) then ((buffer_order.f kj4 ((rd_T46 l0 (ji26)).f0) ((rd_T46 l0 (ji26)).f1) ((rd_T46 l0 (ji26)).f2) ((rd_T46 l0 (ji26)).f3) ((rd_T46 l0 (ji26)).f4) ((rd_T46 l0 (ji26)).f5) ((rd_T46 l0 x7_1).f0) ((rd_T46 l0 x7_1).f1) ((rd_T46 l0 x7_1).f2) ((rd_T46 l0 x7_1).f3) ((rd_T46 l0 x7_1).f4) ((rd_T46 l0 x7_1).f5)).bind fun t281 => (if t281 ≥ 0 then (buffer_Right.j2 kj4 l0 l0 (l0.length : Int) x7_1 true) else (if ((rd_T46 l0 (ji26)).f1) = ((rd_T46 l0 x7_1).f1) then ((buffer_apart.f ((rd_T46 l0 (ji26)).f0) ((rd_T46 l0 (ji26)).f1) ((rd_T46 l0 (ji26)).f2) ((rd_T46 l0 (ji26)).f3) ((rd_T46 l0 (ji26)).f4) ((rd_T46 l0 (ji26)).f5) ((rd_T46 l0 x7_1).f0) ((rd_T46 l0 x7_1).f1) ((rd_T46 l0 x7_1).f2) ((rd_T46 l0 x7_1).f3) ((rd_T46 l0 x7_1).f4) ((rd_T46 l0 x7_1).f5)).bind fun t284 => (buffer_Right.j2 kj4 l0 l0 (l0.length : Int) x7_1 (!t284))) else (buffer_Right.j2 kj4 l0 l0 (l0.length : Int) x7_1 false)))) else (none)) else (none)) = some r := by first | (rw [hji26] at H; exact H) | (simp only [hji26] at H ⊢; exact H)); (have hji26w : (IntKind.i64.wrap (x7_1 - 1)) = ji26 := (i64_w _).trans hji26); (by_cases c27 : 0 ≤ (ji26))
           ·rw [if_pos c27] at H
            (have c27b0 : decide (0 ≤ (ji26)) = true := decide_eq_true c27); (clear c27); (by_cases c28 : (ji26) < (l0.length : Int))
            ·rw [if_pos c28] at H
             (have c28b0 : decide ((ji26) < (l0.length : Int)) = true := decide_eq_true c28); (clear c28); (replace H := Option.bind_eq_some_iff.mp H); (obtain ⟨t281, A290, H⟩ := H); (replace H : (if t281 ≥ 0 then (buffer_Right.j2 kj4 l0 l0 (l0.length : Int) x7_1 true) else (if ((rd_T46 l0 (ji26)).f1) = ((rd_T46 l0 x7_1).f1) then ((buffer_apart.f ((rd_T46 l0 (ji26)).f0) ((rd_T46 l0 (ji26)).f1) ((rd_T46 l0 (ji26)).f2) ((rd_T46 l0 (ji26)).f3) ((rd_T46 l0 (ji26)).f4) ((rd_T46 l0 (ji26)).f5) ((rd_T46 l0 x7_1).f0) ((rd_T46 l0 x7_1).f1) ((rd_T46 l0 x7_1).f2) ((rd_T46 l0 x7_1).f3) ((rd_T46 l0 x7_1).f4) ((rd_T46 l0 x7_1).f5)).bind fun t284 => (buffer_Right.j2 kj4 l0 l0 (l0.length : Int) x7_1 (!t284))) else (buffer_Right.j2 kj4 l0 l0 (l0.length : Int) x7_1 false))) = some r := H); (have A29 := Aside0.mk A290); (clear A290); (by_cases c30 : t281 ≥ 0)
             ·rw [if_pos c30] at H
              (have c30b0 : decide (0 ≤ t281) = true := decide_eq_true c30); (clear c30); (have H' := Aside0.mk H); (clear H); (try go_wp2); (replace BK275 := Aside0.mk (blk_drew BK275.out)); (replace HB := Aside0.mk (below_drew1 HB.out)); (have p280 : 0 ≤ ((ji26) : Int) := of_decide_eq_true (by first | (with_reducible assumption) | assumption)); (have q280 : (ji26) < (l0.length : Int) := of_decide_eq_true (by first | (with_reducible assumption) | assumption)); (obtain ⟨ad280, e280, hx280_0, hx280_1, hx280_2, hx280_3, hx280_4, hx280_5⟩ := at_T46 HR0.out (ji26) p280 q280); (have hw280_5 := hx280_5); (have hw280_4 := hx280_4); (have hw280_3 := hx280_3); (have hw280_2 := hx280_2); (have hw280_1 := hx280_1); (have hw280_0 := hx280_0); (obtain rfl : ad274 = ad280 := (by injection e280)); (replace hx280_0 := c1_ HB hx280_0); (replace hx280_1 := c1_ HB hx280_1); (replace hx280_2 := c1_ HB hx280_2); (replace hx280_3 := c1_ HB hx280_3)
              (replace hx280_4 := c1_ HB hx280_4); (replace hx280_5 := c1_ HB hx280_5); (replace p280 := eq_true p280); (replace q280 := eq_true q280)
              refine start_ (n := 33) (S := fun w' => w'.cell? ⟨gb275, 0, none⟩ = some (.int .u8 ((rd_T46 l0 x7_1).f0)) ∧ w'.cell? ⟨gb275, 1, none⟩ = some (.int .i64 ((rd_T46 l0 x7_1).f1)) ∧ w'.cell? ⟨gb275, 2, none⟩ = some (.string ((rd_T46 l0 x7_1).f2)) ∧ w'.cell? ⟨gb275, 3, none⟩ = some (.string ((rd_T46 l0 x7_1).f3)) ∧ w'.cell? ⟨gb275, 4, none⟩ = some (.string ((rd_T46 l0 x7_1).f4)) ∧ w'.cell? ⟨gb275, 5, none⟩ = some (.int .u64 ((rd_T46 l0 x7_1).f5)) ∧ w'.cell? (ad274.add (((ji26)).toNat * 6)) = some (.int .u8 ((rd_T46 l0 (ji26)).f0)) ∧ w'.cell? ⟨(ad274.add (((ji26)).toNat * 6)).block, (ad274.add (((ji26)).toNat * 6)).off + 1, none⟩ = some (.int .i64 ((rd_T46 l0 (ji26)).f1)) ∧ w'.cell? ⟨(ad274.add (((ji26)).toNat * 6)).block, (ad274.add (((ji26)).toNat * 6)).off + 2, none⟩ = some (.string ((rd_T46 l0 (ji26)).f2)) ∧ w'.cell? ⟨(ad274.add (((ji26)).toNat * 6)).block, (ad274.add (((ji26)).toNat * 6)).off + 3, none⟩ = some (.string ((rd_T46 l0 (ji26)).f3)) ∧ w'.cell? ⟨(ad274.add (((ji26)).toNat * 6)).block, (ad274.add (((ji26)).toNat * 6)).off + 4, none⟩ = some (.string ((rd_T46 l0 (ji26)).f4)) ∧ w'.cell? ⟨(ad274.add (((ji26)).toNat * 6)).block, (ad274.add (((ji26)).toNat * 6)).off + 5, none⟩ = some (.int .u64 ((rd_T46 l0 (ji26)).f5))) (ds := []) #[false, false, false, false, false, false, false, false, false, false, false, false, false, false, false, false, false, false, false, false, false, false, false, false, false, false, false, false, false, false, false, false, false] (by kernel_rfl) rfl rfl ⟨(b_ BK275 0), (b_ BK275 1), (b_ BK275 2), (b_ BK275 3), (b_ BK275 4), (b_ BK275 5), (c1_ HB hw280_0), (c1_ HB hw280_1), (c1_ HB hw280_2), (c1_ HB hw280_3), (c1_ HB hw280_4), (c1_ HB hw280_5)⟩ (fun hHeld => ?_); refine with_tabW buffer_Right.tab6 buffer_Right.bits6 (fun HT_ HW_ => ?_)
              (generalize wc.drew = w31 at BK275 HB hx280_0 hx280_1 hx280_2 hx280_3 hx280_4 hx280_5 hHeld ⊢); (refine pv_ 0 26 HT_.out ?_)
              refine pv_ 1 27 HT_.out ?_
              refine pv_ 2 28 HT_.out ?_
              refine pv_ 3 29 HT_.out ?_
              refine pv_ 4 30 HT_.out ?_
              refine pv_ 5 31 HT_.out ?_
              refine pv_ 6 32 HT_.out ?_
              refine tv_ 7 33 HT_.out HW_.out rfl hHeld (q39_4) ?_
              refine tv_ 8 34 HT_.out HW_.out rfl hHeld (q39_4) ?_
              (refine one_ (i := 9) (N := some 35) #[true, true, true, true, true, true, true, true, true, true, false, false, false, false, false, false, false, false, false, false, false, false, false, false, false, false, false, false, false, false, false, false, false] rfl rfl (one_of HT_.out (by kernel_rfl)) (by decide) (fun K hK => ?_)); (refine goes_ Try.func91 (by kernel_rfl) rfl #[.agg #[.int .u8 ((rd_T46 l0 (ji26)).f0), .int .i64 ((rd_T46 l0 (ji26)).f1), .string ((rd_T46 l0 (ji26)).f2), .string ((rd_T46 l0 (ji26)).f3), .string ((rd_T46 l0 (ji26)).f4), .int .u64 ((rd_T46 l0 (ji26)).f5)], .agg #[.int .u8 ((rd_T46 l0 x7_1).f0), .int .i64 ((rd_T46 l0 x7_1).f1), .string ((rd_T46 l0 x7_1).f2), .string ((rd_T46 l0 x7_1).f3), .string ((rd_T46 l0 x7_1).f4), .int .u64 ((rd_T46 l0 x7_1).f5)]] (by rfl) rfl rfl (by (try simp only [List.map_toArray, List.map_cons, List.map_nil]); first | done | (simp only [hji26]; rfl) | rfl | (simp only [List.length_drop, List.length_take]; rfl)) ?_)
              (with_reducible refine (buffer_order.calls kj4 ((rd_T46 l0 (ji26)).f0) ((rd_T46 l0 (ji26)).f1) ((rd_T46 l0 (ji26)).f2) ((rd_T46 l0 (ji26)).f3) ((rd_T46 l0 (ji26)).f4) ((rd_T46 l0 (ji26)).f5) ((rd_T46 l0 x7_1).f0) ((rd_T46 l0 x7_1).f1) ((rd_T46 l0 x7_1).f2) ((rd_T46 l0 x7_1).f3) ((rd_T46 l0 x7_1).f4) ((rd_T46 l0 x7_1).f5) t281 _ A29.out).mono ?_); (rintro e w32 ⟨rfl, hb⟩); (refine ⟨_, rfl, ?_⟩); (replace BK275 := Aside0.mk (blk_below (q39_3) hb)); (replace HB := Aside0.mk (below_step (q39_2) hb)); ((try clear hb)); ((try clear hb2)); ((try clear hk)); ((try clear hi))
              (refine hK.out _ _ ⟨(b_ BK275 0), (b_ BK275 1), (b_ BK275 2), (b_ BK275 3), (b_ BK275 4), (b_ BK275 5), (c1_ HB hw280_0), (c1_ HB hw280_1), (c1_ HB hw280_2), (c1_ HB hw280_3), (c1_ HB hw280_4), (c1_ HB hw280_5)⟩ (fun hHeld => ?_)); (clear hK K); (refine norm_ (a' := ?_) ?_ ?_)
              rotate_left
              ·show Act.put _ (some 35) _ = _
               (simp only [pt_, pn_, sz_, ss_, i64_w, i32_w]); (rfl)
              refine pv_ 10 36 HT_.out ?_
              refine pv_ 11 37 HT_.out ?_
              refine pw_ 12 38 HT_.out ?_
              refine pw_ 13 39 HT_.out ?_
              refine pw_ 14 40 HT_.out ?_
              refine pw_ 15 41 HT_.out ?_
              refine pw_ 16 42 HT_.out ?_
              refine pw_ 17 43 HT_.out ?_
              refine pw_ 18 44 HT_.out ?_
              refine pw_ 19 45 HT_.out ?_
              refine pw_ 20 46 HT_.out ?_
              refine pw_ 21 47 HT_.out ?_
              refine pw_ 22 48 HT_.out ?_
              refine pw_ 23 49 HT_.out ?_
              refine pw_ 24 50 HT_.out ?_
              refine pw_ 25 51 HT_.out ?_
              refine pw_ 26 52 HT_.out ?_
              refine pw_ 27 53 HT_.out ?_
              refine pw_ 28 54 HT_.out ?_
              refine pw_ 29 55 HT_.out ?_
              refine pw_ 30 56 HT_.out ?_
              refine pv_ 31 57 HT_.out ?_
              refine pv_ 32 58 HT_.out ?_
              (refine done_ (done_of HT_.out (by kernel_rfl)) ?_); (try go_wp2); (go_meet)
              case rel => exact ⟨_, (true), (by first | rfl | (simp; done) | (simp [*]; done)), H', ⟨by have := HK1.out; have := HJ4.out; first | omega | exact Nat.le_refl _⟩, ⟨q39_3⟩, ⟨q39_2⟩⟩
             ·rw [if_neg c30] at H
              (have c30b0 : decide (0 ≤ t281) = false := decide_eq_false c30); (clear c30); (by_cases c33 : ((rd_T46 l0 (ji26)).f1) = ((rd_T46 l0 x7_1).f1))
              ·rw [if_pos c33] at H
               (have c33b0 : (((rd_T46 l0 (ji26)).f1) == ((rd_T46 l0 x7_1).f1)) = true := beq_iff_eq.mpr c33); (have c33b1 : (((rd_T46 l0 (ji26)).f1) != ((rd_T46 l0 x7_1).f1)) = false := bne_eq_false_iff_eq.mpr c33); (clear c33); (replace H := Option.bind_eq_some_iff.mp H); (obtain ⟨t284, A340, H⟩ := H); (replace H : (buffer_Right.j2 kj4 l0 l0 (l0.length : Int) x7_1 (!t284)) = some r := H); (have A34 := Aside0.mk A340); (clear A340); (have H' := Aside0.mk H); (clear H); (try go_wp2); (replace BK275 := Aside0.mk (blk_drew BK275.out)); (replace HB := Aside0.mk (below_drew1 HB.out)); (have p280 : 0 ≤ ((ji26) : Int) := of_decide_eq_true (by first | (with_reducible assumption) | assumption)); (have q280 : (ji26) < (l0.length : Int) := of_decide_eq_true (by first | (with_reducible assumption) | assumption)); (obtain ⟨ad280, e280, hx280_0, hx280_1, hx280_2, hx280_3, hx280_4, hx280_5⟩ := at_T46 HR0.out (ji26) p280 q280); (have hw280_5 := hx280_5); (have hw280_4 := hx280_4); (have hw280_3 := hx280_3); (have hw280_2 := hx280_2); (have hw280_1 := hx280_1); (have hw280_0 := hx280_0); (obtain rfl : ad274 = ad280 := (by injection e280))
               (replace hx280_0 := c1_ HB hx280_0); (replace hx280_1 := c1_ HB hx280_1); (replace hx280_2 := c1_ HB hx280_2); (replace hx280_3 := c1_ HB hx280_3); (replace hx280_4 := c1_ HB hx280_4); (replace hx280_5 := c1_ HB hx280_5); (replace p280 := eq_true p280); (replace q280 := eq_true q280); (have p282 : 0 ≤ ((ji26) : Int) := of_decide_eq_true (by first | (with_reducible assumption) | assumption)); (have q282 : (ji26) < (l0.length : Int) := of_decide_eq_true (by first | (with_reducible assumption) | assumption)); (obtain ⟨ad282, e282, hx282_0, hx282_1, hx282_2, hx282_3, hx282_4, hx282_5⟩ := at_T46 HR0.out (ji26) p282 q282); (have hw282_5 := hx282_5); (have hw282_4 := hx282_4); (have hw282_3 := hx282_3); (have hw282_2 := hx282_2); (have hw282_1 := hx282_1); (have hw282_0 := hx282_0); (obtain rfl : ad274 = ad282 := (by injection e282))
               (replace hx282_0 := c1_ HB hx282_0); (replace hx282_1 := c1_ HB hx282_1); (replace hx282_2 := c1_ HB hx282_2); (replace hx282_3 := c1_ HB hx282_3); (replace hx282_4 := c1_ HB hx282_4); (replace hx282_5 := c1_ HB hx282_5); (replace p282 := eq_true p282); (replace q282 := eq_true q282); (have p283 : 0 ≤ ((ji26) : Int) := of_decide_eq_true (by first | (with_reducible assumption) | assumption)); (have q283 : (ji26) < (l0.length : Int) := of_decide_eq_true (by first | (with_reducible assumption) | assumption)); (obtain ⟨ad283, e283, hx283_0, hx283_1, hx283_2, hx283_3, hx283_4, hx283_5⟩ := at_T46 HR0.out (ji26) p283 q283); (have hw283_5 := hx283_5); (have hw283_4 := hx283_4); (have hw283_3 := hx283_3); (have hw283_2 := hx283_2); (have hw283_1 := hx283_1); (have hw283_0 := hx283_0); (obtain rfl : ad274 = ad283 := (by injection e283))
               (replace hx283_0 := c1_ HB hx283_0); (replace hx283_1 := c1_ HB hx283_1); (replace hx283_2 := c1_ HB hx283_2); (replace hx283_3 := c1_ HB hx283_3); (replace hx283_4 := c1_ HB hx283_4); (replace hx283_5 := c1_ HB hx283_5); (replace p283 := eq_true p283); (replace q283 := eq_true q283)
               refine start_ (n := 33) (S := fun w' => w'.cell? ⟨gb275, 0, none⟩ = some (.int .u8 ((rd_T46 l0 x7_1).f0)) ∧ w'.cell? ⟨gb275, 1, none⟩ = some (.int .i64 ((rd_T46 l0 x7_1).f1)) ∧ w'.cell? ⟨gb275, 2, none⟩ = some (.string ((rd_T46 l0 x7_1).f2)) ∧ w'.cell? ⟨gb275, 3, none⟩ = some (.string ((rd_T46 l0 x7_1).f3)) ∧ w'.cell? ⟨gb275, 4, none⟩ = some (.string ((rd_T46 l0 x7_1).f4)) ∧ w'.cell? ⟨gb275, 5, none⟩ = some (.int .u64 ((rd_T46 l0 x7_1).f5)) ∧ w'.cell? (ad274.add (((ji26)).toNat * 6)) = some (.int .u8 ((rd_T46 l0 (ji26)).f0)) ∧ w'.cell? ⟨(ad274.add (((ji26)).toNat * 6)).block, (ad274.add (((ji26)).toNat * 6)).off + 1, none⟩ = some (.int .i64 ((rd_T46 l0 (ji26)).f1)) ∧ w'.cell? ⟨(ad274.add (((ji26)).toNat * 6)).block, (ad274.add (((ji26)).toNat * 6)).off + 2, none⟩ = some (.string ((rd_T46 l0 (ji26)).f2)) ∧ w'.cell? ⟨(ad274.add (((ji26)).toNat * 6)).block, (ad274.add (((ji26)).toNat * 6)).off + 3, none⟩ = some (.string ((rd_T46 l0 (ji26)).f3)) ∧ w'.cell? ⟨(ad274.add (((ji26)).toNat * 6)).block, (ad274.add (((ji26)).toNat * 6)).off + 4, none⟩ = some (.string ((rd_T46 l0 (ji26)).f4)) ∧ w'.cell? ⟨(ad274.add (((ji26)).toNat * 6)).block, (ad274.add (((ji26)).toNat * 6)).off + 5, none⟩ = some (.int .u64 ((rd_T46 l0 (ji26)).f5)) ∧ w'.cell? (ad274.add (((ji26)).toNat * 6)) = some (.int .u8 ((rd_T46 l0 (ji26)).f0)) ∧ w'.cell? ⟨(ad274.add (((ji26)).toNat * 6)).block, (ad274.add (((ji26)).toNat * 6)).off + 1, none⟩ = some (.int .i64 ((rd_T46 l0 (ji26)).f1)) ∧ w'.cell? ⟨(ad274.add (((ji26)).toNat * 6)).block, (ad274.add (((ji26)).toNat * 6)).off + 2, none⟩ = some (.string ((rd_T46 l0 (ji26)).f2)) ∧ w'.cell? ⟨(ad274.add (((ji26)).toNat * 6)).block, (ad274.add (((ji26)).toNat * 6)).off + 3, none⟩ = some (.string ((rd_T46 l0 (ji26)).f3)) ∧ w'.cell? ⟨(ad274.add (((ji26)).toNat * 6)).block, (ad274.add (((ji26)).toNat * 6)).off + 4, none⟩ = some (.string ((rd_T46 l0 (ji26)).f4)) ∧ w'.cell? ⟨(ad274.add (((ji26)).toNat * 6)).block, (ad274.add (((ji26)).toNat * 6)).off + 5, none⟩ = some (.int .u64 ((rd_T46 l0 (ji26)).f5)) ∧ w'.cell? (ad274.add (((ji26)).toNat * 6)) = some (.int .u8 ((rd_T46 l0 (ji26)).f0)) ∧ w'.cell? ⟨(ad274.add (((ji26)).toNat * 6)).block, (ad274.add (((ji26)).toNat * 6)).off + 1, none⟩ = some (.int .i64 ((rd_T46 l0 (ji26)).f1)) ∧ w'.cell? ⟨(ad274.add (((ji26)).toNat * 6)).block, (ad274.add (((ji26)).toNat * 6)).off + 2, none⟩ = some (.string ((rd_T46 l0 (ji26)).f2)) ∧ w'.cell? ⟨(ad274.add (((ji26)).toNat * 6)).block, (ad274.add (((ji26)).toNat * 6)).off + 3, none⟩ = some (.string ((rd_T46 l0 (ji26)).f3)) ∧ w'.cell? ⟨(ad274.add (((ji26)).toNat * 6)).block, (ad274.add (((ji26)).toNat * 6)).off + 4, none⟩ = some (.string ((rd_T46 l0 (ji26)).f4)) ∧ w'.cell? ⟨(ad274.add (((ji26)).toNat * 6)).block, (ad274.add (((ji26)).toNat * 6)).off + 5, none⟩ = some (.int .u64 ((rd_T46 l0 (ji26)).f5))) (ds := []) #[false, false, false, false, false, false, false, false, false, false, false, false, false, false, false, false, false, false, false, false, false, false, false, false, false, false, false, false, false, false, false, false, false] (by kernel_rfl) rfl rfl ⟨(b_ BK275 0), (b_ BK275 1), (b_ BK275 2), (b_ BK275 3), (b_ BK275 4), (b_ BK275 5), (c1_ HB hw280_0), (c1_ HB hw280_1), (c1_ HB hw280_2), (c1_ HB hw280_3), (c1_ HB hw280_4), (c1_ HB hw280_5), (c1_ HB hw282_0), (c1_ HB hw282_1), (c1_ HB hw282_2), (c1_ HB hw282_3), (c1_ HB hw282_4), (c1_ HB hw282_5), (c1_ HB hw283_0), (c1_ HB hw283_1), (c1_ HB hw283_2), (c1_ HB hw283_3), (c1_ HB hw283_4), (c1_ HB hw283_5)⟩ (fun hHeld => ?_); refine with_tabW buffer_Right.tab6 buffer_Right.bits6 (fun HT_ HW_ => ?_)
               (generalize wc.drew = w35 at BK275 HB hx280_0 hx280_1 hx280_2 hx280_3 hx280_4 hx280_5 hx282_0 hx282_1 hx282_2 hx282_3 hx282_4 hx282_5 hx283_0 hx283_1 hx283_2 hx283_3 hx283_4 hx283_5 hHeld ⊢); (refine pv_ 0 26 HT_.out ?_)
               refine pv_ 1 27 HT_.out ?_
               refine pv_ 2 28 HT_.out ?_
               refine pv_ 3 29 HT_.out ?_
               refine pv_ 4 30 HT_.out ?_
               refine pv_ 5 31 HT_.out ?_
               refine pv_ 6 32 HT_.out ?_
               refine tv_ 7 33 HT_.out HW_.out rfl hHeld (q39_5) ?_
               refine tv_ 8 34 HT_.out HW_.out rfl hHeld (q39_5) ?_
               (refine one_ (i := 9) (N := some 35) #[true, true, true, true, true, true, true, true, true, true, false, false, false, false, false, false, false, false, false, false, false, false, false, false, false, false, false, false, false, false, false, false, false] rfl rfl (one_of HT_.out (by kernel_rfl)) (by decide) (fun K hK => ?_)); (refine goes_ Try.func91 (by kernel_rfl) rfl #[.agg #[.int .u8 ((rd_T46 l0 (ji26)).f0), .int .i64 ((rd_T46 l0 (ji26)).f1), .string ((rd_T46 l0 (ji26)).f2), .string ((rd_T46 l0 (ji26)).f3), .string ((rd_T46 l0 (ji26)).f4), .int .u64 ((rd_T46 l0 (ji26)).f5)], .agg #[.int .u8 ((rd_T46 l0 x7_1).f0), .int .i64 ((rd_T46 l0 x7_1).f1), .string ((rd_T46 l0 x7_1).f2), .string ((rd_T46 l0 x7_1).f3), .string ((rd_T46 l0 x7_1).f4), .int .u64 ((rd_T46 l0 x7_1).f5)]] (by rfl) rfl rfl (by (try simp only [List.map_toArray, List.map_cons, List.map_nil]); first | done | (simp only [hji26]; rfl) | rfl | (simp only [List.length_drop, List.length_take]; rfl)) ?_)
               (with_reducible refine (buffer_order.calls kj4 ((rd_T46 l0 (ji26)).f0) ((rd_T46 l0 (ji26)).f1) ((rd_T46 l0 (ji26)).f2) ((rd_T46 l0 (ji26)).f3) ((rd_T46 l0 (ji26)).f4) ((rd_T46 l0 (ji26)).f5) ((rd_T46 l0 x7_1).f0) ((rd_T46 l0 x7_1).f1) ((rd_T46 l0 x7_1).f2) ((rd_T46 l0 x7_1).f3) ((rd_T46 l0 x7_1).f4) ((rd_T46 l0 x7_1).f5) t281 _ A29.out).mono ?_); (rintro e w36 ⟨rfl, hb⟩); (refine ⟨_, rfl, ?_⟩); (replace BK275 := Aside0.mk (blk_below (q39_3) hb)); (replace HB := Aside0.mk (below_step (q39_2) hb)); ((try clear hb)); ((try clear hb2)); ((try clear hk)); ((try clear hi))
               refine hK.out _ _ q39_6 (fun hHeld => ?_)
               (clear hK K); (refine norm_ (a' := ?_) ?_ ?_)
               rotate_left
               ·show Act.put _ (some 35) _ = _
                (simp only [pt_, pn_, sz_, ss_, i64_w, i32_w]); (rfl)
               refine pv_ 10 36 HT_.out ?_
               refine pv_ 11 37 HT_.out ?_
               refine pv_ 12 38 HT_.out ?_
               refine pv_ 13 39 HT_.out ?_
               refine pv_ 14 40 HT_.out ?_
               refine pv_ 15 41 HT_.out ?_
               refine pv_ 16 42 HT_.out ?_
               refine pv_ 18 44 HT_.out ?_
               refine tv_ 17 43 HT_.out HW_.out rfl hHeld (q39_5) ?_
               refine tv_ 19 45 HT_.out HW_.out rfl hHeld (q39_5) ?_
               refine pv_ 20 46 HT_.out ?_
               refine pv_ 21 47 HT_.out ?_
               refine pv_ 22 48 HT_.out ?_
               refine pv_ 23 49 HT_.out ?_
               refine pv_ 24 50 HT_.out ?_
               refine pv_ 25 51 HT_.out ?_
               refine tv_ 26 52 HT_.out HW_.out rfl hHeld (q39_5) ?_
               refine tv_ 27 53 HT_.out HW_.out rfl hHeld (q39_5) ?_
               (refine one_ (i := 28) (N := some 54) #[true, true, true, true, true, true, true, true, true, true, true, true, true, true, true, true, true, true, true, true, true, true, true, true, true, true, true, true, true, false, false, false, false] rfl rfl (one_of HT_.out (by kernel_rfl)) (by decide) (fun K hK => ?_)); (refine goes_ Try.func100 (by kernel_rfl) rfl #[.agg #[.int .u8 ((rd_T46 l0 (ji26)).f0), .int .i64 ((rd_T46 l0 (ji26)).f1), .string ((rd_T46 l0 (ji26)).f2), .string ((rd_T46 l0 (ji26)).f3), .string ((rd_T46 l0 (ji26)).f4), .int .u64 ((rd_T46 l0 (ji26)).f5)], .agg #[.int .u8 ((rd_T46 l0 x7_1).f0), .int .i64 ((rd_T46 l0 x7_1).f1), .string ((rd_T46 l0 x7_1).f2), .string ((rd_T46 l0 x7_1).f3), .string ((rd_T46 l0 x7_1).f4), .int .u64 ((rd_T46 l0 x7_1).f5)]] (by rfl) rfl rfl (by (try simp only [List.map_toArray, List.map_cons, List.map_nil]); first | done | (simp only [hji26]; rfl) | rfl | (simp only [List.length_drop, List.length_take]; rfl)) ?_)
               (with_reducible refine (buffer_apart.calls ((rd_T46 l0 (ji26)).f0) ((rd_T46 l0 (ji26)).f1) ((rd_T46 l0 (ji26)).f2) ((rd_T46 l0 (ji26)).f3) ((rd_T46 l0 (ji26)).f4) ((rd_T46 l0 (ji26)).f5) ((rd_T46 l0 x7_1).f0) ((rd_T46 l0 x7_1).f1) ((rd_T46 l0 x7_1).f2) ((rd_T46 l0 x7_1).f3) ((rd_T46 l0 x7_1).f4) ((rd_T46 l0 x7_1).f5) t284 _ A34.out).mono ?_); (rintro e w37 ⟨rfl, hb⟩); (refine ⟨_, rfl, ?_⟩); (replace BK275 := Aside0.mk (blk_below (q39_3) hb)); (replace HB := Aside0.mk (below_step (q39_2) hb)); ((try clear hb)); ((try clear hb2)); ((try clear hk)); ((try clear hi))
               refine hK.out _ _ q39_6 (fun hHeld => ?_)
               (clear hK K); (refine norm_ (a' := ?_) ?_ ?_)
               rotate_left
               ·show Act.put _ (some 54) _ = _
                (simp only [pt_, pn_, sz_, ss_, i64_w, i32_w]); (rfl)
               refine pv_ 29 55 HT_.out ?_
               refine pv_ 30 56 HT_.out ?_
               refine pv_ 31 57 HT_.out ?_
               refine pv_ 32 58 HT_.out ?_
               (refine done_ (done_of HT_.out (by kernel_rfl)) ?_); (try go_wp2); (go_meet)
               case rel => exact ⟨_, (!t284), (by first | rfl | (simp; done) | (simp [*]; done)), H', ⟨by have := HK1.out; have := HJ4.out; first | omega | exact Nat.le_refl _⟩, ⟨q39_3⟩, ⟨q39_2⟩⟩
              ·rw [if_neg c33] at H
               (have c33b0 : (((rd_T46 l0 (ji26)).f1) == ((rd_T46 l0 x7_1).f1)) = false := beq_eq_false_iff_ne.mpr c33); (have c33b1 : (((rd_T46 l0 (ji26)).f1) != ((rd_T46 l0 x7_1).f1)) = true := bne_iff_ne.mpr c33); (have H' := Aside0.mk H); (clear H); (try go_wp2); (replace BK275 := Aside0.mk (blk_drew BK275.out)); (replace HB := Aside0.mk (below_drew1 HB.out)); (have p280 : 0 ≤ ((ji26) : Int) := of_decide_eq_true (by first | (with_reducible assumption) | assumption)); (have q280 : (ji26) < (l0.length : Int) := of_decide_eq_true (by first | (with_reducible assumption) | assumption)); (obtain ⟨ad280, e280, hx280_0, hx280_1, hx280_2, hx280_3, hx280_4, hx280_5⟩ := at_T46 HR0.out (ji26) p280 q280); (have hw280_5 := hx280_5); (have hw280_4 := hx280_4); (have hw280_3 := hx280_3); (have hw280_2 := hx280_2); (have hw280_1 := hx280_1); (have hw280_0 := hx280_0); (obtain rfl : ad274 = ad280 := (by injection e280)); (replace hx280_0 := c1_ HB hx280_0); (replace hx280_1 := c1_ HB hx280_1)
               (replace hx280_2 := c1_ HB hx280_2); (replace hx280_3 := c1_ HB hx280_3); (replace hx280_4 := c1_ HB hx280_4); (replace hx280_5 := c1_ HB hx280_5); (replace p280 := eq_true p280); (replace q280 := eq_true q280); (have p282 : 0 ≤ ((ji26) : Int) := of_decide_eq_true (by first | (with_reducible assumption) | assumption)); (have q282 : (ji26) < (l0.length : Int) := of_decide_eq_true (by first | (with_reducible assumption) | assumption)); (obtain ⟨ad282, e282, hx282_0, hx282_1, hx282_2, hx282_3, hx282_4, hx282_5⟩ := at_T46 HR0.out (ji26) p282 q282); (have hw282_5 := hx282_5); (have hw282_4 := hx282_4); (have hw282_3 := hx282_3); (have hw282_2 := hx282_2); (have hw282_1 := hx282_1); (have hw282_0 := hx282_0); (obtain rfl : ad274 = ad282 := (by injection e282)); (replace hx282_0 := c1_ HB hx282_0); (replace hx282_1 := c1_ HB hx282_1)
               (replace hx282_2 := c1_ HB hx282_2); (replace hx282_3 := c1_ HB hx282_3); (replace hx282_4 := c1_ HB hx282_4); (replace hx282_5 := c1_ HB hx282_5); (replace p282 := eq_true p282); (replace q282 := eq_true q282)
               refine start_ (n := 33) (S := fun w' => w'.cell? ⟨gb275, 0, none⟩ = some (.int .u8 ((rd_T46 l0 x7_1).f0)) ∧ w'.cell? ⟨gb275, 1, none⟩ = some (.int .i64 ((rd_T46 l0 x7_1).f1)) ∧ w'.cell? ⟨gb275, 2, none⟩ = some (.string ((rd_T46 l0 x7_1).f2)) ∧ w'.cell? ⟨gb275, 3, none⟩ = some (.string ((rd_T46 l0 x7_1).f3)) ∧ w'.cell? ⟨gb275, 4, none⟩ = some (.string ((rd_T46 l0 x7_1).f4)) ∧ w'.cell? ⟨gb275, 5, none⟩ = some (.int .u64 ((rd_T46 l0 x7_1).f5)) ∧ w'.cell? (ad274.add (((ji26)).toNat * 6)) = some (.int .u8 ((rd_T46 l0 (ji26)).f0)) ∧ w'.cell? ⟨(ad274.add (((ji26)).toNat * 6)).block, (ad274.add (((ji26)).toNat * 6)).off + 1, none⟩ = some (.int .i64 ((rd_T46 l0 (ji26)).f1)) ∧ w'.cell? ⟨(ad274.add (((ji26)).toNat * 6)).block, (ad274.add (((ji26)).toNat * 6)).off + 2, none⟩ = some (.string ((rd_T46 l0 (ji26)).f2)) ∧ w'.cell? ⟨(ad274.add (((ji26)).toNat * 6)).block, (ad274.add (((ji26)).toNat * 6)).off + 3, none⟩ = some (.string ((rd_T46 l0 (ji26)).f3)) ∧ w'.cell? ⟨(ad274.add (((ji26)).toNat * 6)).block, (ad274.add (((ji26)).toNat * 6)).off + 4, none⟩ = some (.string ((rd_T46 l0 (ji26)).f4)) ∧ w'.cell? ⟨(ad274.add (((ji26)).toNat * 6)).block, (ad274.add (((ji26)).toNat * 6)).off + 5, none⟩ = some (.int .u64 ((rd_T46 l0 (ji26)).f5)) ∧ w'.cell? (ad274.add (((ji26)).toNat * 6)) = some (.int .u8 ((rd_T46 l0 (ji26)).f0)) ∧ w'.cell? ⟨(ad274.add (((ji26)).toNat * 6)).block, (ad274.add (((ji26)).toNat * 6)).off + 1, none⟩ = some (.int .i64 ((rd_T46 l0 (ji26)).f1)) ∧ w'.cell? ⟨(ad274.add (((ji26)).toNat * 6)).block, (ad274.add (((ji26)).toNat * 6)).off + 2, none⟩ = some (.string ((rd_T46 l0 (ji26)).f2)) ∧ w'.cell? ⟨(ad274.add (((ji26)).toNat * 6)).block, (ad274.add (((ji26)).toNat * 6)).off + 3, none⟩ = some (.string ((rd_T46 l0 (ji26)).f3)) ∧ w'.cell? ⟨(ad274.add (((ji26)).toNat * 6)).block, (ad274.add (((ji26)).toNat * 6)).off + 4, none⟩ = some (.string ((rd_T46 l0 (ji26)).f4)) ∧ w'.cell? ⟨(ad274.add (((ji26)).toNat * 6)).block, (ad274.add (((ji26)).toNat * 6)).off + 5, none⟩ = some (.int .u64 ((rd_T46 l0 (ji26)).f5))) (ds := []) #[false, false, false, false, false, false, false, false, false, false, false, false, false, false, false, false, false, false, false, false, false, false, false, false, false, false, false, false, false, false, false, false, false] (by kernel_rfl) rfl rfl ⟨(b_ BK275 0), (b_ BK275 1), (b_ BK275 2), (b_ BK275 3), (b_ BK275 4), (b_ BK275 5), (c1_ HB hw280_0), (c1_ HB hw280_1), (c1_ HB hw280_2), (c1_ HB hw280_3), (c1_ HB hw280_4), (c1_ HB hw280_5), (c1_ HB hw282_0), (c1_ HB hw282_1), (c1_ HB hw282_2), (c1_ HB hw282_3), (c1_ HB hw282_4), (c1_ HB hw282_5)⟩ (fun hHeld => ?_); refine with_tabW buffer_Right.tab6 buffer_Right.bits6 (fun HT_ HW_ => ?_)
               (generalize wc.drew = w38 at BK275 HB hx280_0 hx280_1 hx280_2 hx280_3 hx280_4 hx280_5 hx282_0 hx282_1 hx282_2 hx282_3 hx282_4 hx282_5 hHeld ⊢); (refine pv_ 0 26 HT_.out ?_)
               refine pv_ 1 27 HT_.out ?_
               refine pv_ 2 28 HT_.out ?_
               refine pv_ 3 29 HT_.out ?_
               refine pv_ 4 30 HT_.out ?_
               refine pv_ 5 31 HT_.out ?_
               refine pv_ 6 32 HT_.out ?_
               refine tv_ 7 33 HT_.out HW_.out rfl hHeld (q39_7) ?_
               refine tv_ 8 34 HT_.out HW_.out rfl hHeld (q39_7) ?_
               (refine one_ (i := 9) (N := some 35) #[true, true, true, true, true, true, true, true, true, true, false, false, false, false, false, false, false, false, false, false, false, false, false, false, false, false, false, false, false, false, false, false, false] rfl rfl (one_of HT_.out (by kernel_rfl)) (by decide) (fun K hK => ?_)); (refine goes_ Try.func91 (by kernel_rfl) rfl #[.agg #[.int .u8 ((rd_T46 l0 (ji26)).f0), .int .i64 ((rd_T46 l0 (ji26)).f1), .string ((rd_T46 l0 (ji26)).f2), .string ((rd_T46 l0 (ji26)).f3), .string ((rd_T46 l0 (ji26)).f4), .int .u64 ((rd_T46 l0 (ji26)).f5)], .agg #[.int .u8 ((rd_T46 l0 x7_1).f0), .int .i64 ((rd_T46 l0 x7_1).f1), .string ((rd_T46 l0 x7_1).f2), .string ((rd_T46 l0 x7_1).f3), .string ((rd_T46 l0 x7_1).f4), .int .u64 ((rd_T46 l0 x7_1).f5)]] (by rfl) rfl rfl (by (try simp only [List.map_toArray, List.map_cons, List.map_nil]); first | done | (simp only [hji26]; rfl) | rfl | (simp only [List.length_drop, List.length_take]; rfl)) ?_)
               (with_reducible refine (buffer_order.calls kj4 ((rd_T46 l0 (ji26)).f0) ((rd_T46 l0 (ji26)).f1) ((rd_T46 l0 (ji26)).f2) ((rd_T46 l0 (ji26)).f3) ((rd_T46 l0 (ji26)).f4) ((rd_T46 l0 (ji26)).f5) ((rd_T46 l0 x7_1).f0) ((rd_T46 l0 x7_1).f1) ((rd_T46 l0 x7_1).f2) ((rd_T46 l0 x7_1).f3) ((rd_T46 l0 x7_1).f4) ((rd_T46 l0 x7_1).f5) t281 _ A29.out).mono ?_); (rintro e w39 ⟨rfl, hb⟩); (refine ⟨_, rfl, ?_⟩); (replace BK275 := Aside0.mk (blk_below (q39_3) hb)); (replace HB := Aside0.mk (below_step (q39_2) hb)); ((try clear hb)); ((try clear hb2)); ((try clear hk)); ((try clear hi))
               (refine hK.out _ _ ⟨(b_ BK275 0), (b_ BK275 1), (b_ BK275 2), (b_ BK275 3), (b_ BK275 4), (b_ BK275 5), (c1_ HB hw280_0), (c1_ HB hw280_1), (c1_ HB hw280_2), (c1_ HB hw280_3), (c1_ HB hw280_4), (c1_ HB hw280_5), (c1_ HB hw282_0), (c1_ HB hw282_1), (c1_ HB hw282_2), (c1_ HB hw282_3), (c1_ HB hw282_4), (c1_ HB hw282_5)⟩ (fun hHeld => ?_)); (clear hK K); (refine norm_ (a' := ?_) ?_ ?_)
               rotate_left
               ·show Act.put _ (some 35) _ = _
                (simp only [pt_, pn_, sz_, ss_, i64_w, i32_w]); (rfl)
               refine pv_ 10 36 HT_.out ?_
               refine pv_ 11 37 HT_.out ?_
               refine pv_ 12 38 HT_.out ?_
               refine pv_ 13 39 HT_.out ?_
               refine pv_ 14 40 HT_.out ?_
               refine pv_ 15 41 HT_.out ?_
               refine pv_ 16 42 HT_.out ?_
               refine pv_ 18 44 HT_.out ?_
               refine tv_ 17 43 HT_.out HW_.out rfl hHeld (q39_7) ?_
               refine tv_ 19 45 HT_.out HW_.out rfl hHeld (q39_7) ?_
               refine pv_ 20 46 HT_.out ?_
               refine pv_ 21 47 HT_.out ?_
               refine pw_ 22 48 HT_.out ?_
               refine pw_ 23 49 HT_.out ?_
               refine pw_ 24 50 HT_.out ?_
               refine pw_ 25 51 HT_.out ?_
               refine pw_ 26 52 HT_.out ?_
               refine pw_ 27 53 HT_.out ?_
               refine pw_ 28 54 HT_.out ?_
               refine pw_ 29 55 HT_.out ?_
               refine pv_ 30 56 HT_.out ?_
               refine pv_ 31 57 HT_.out ?_
               refine pv_ 32 58 HT_.out ?_
               (refine done_ (done_of HT_.out (by kernel_rfl)) ?_); (try go_wp2); (go_meet)
               case rel => exact ⟨_, (false), (by first | rfl | (simp; done) | (simp [*]; done)), H', ⟨by have := HK1.out; have := HJ4.out; first | omega | exact Nat.le_refl _⟩, ⟨q39_3⟩, ⟨q39_2⟩⟩
            ·rw [if_neg c28] at H
             exact absurd H (by simp)
           ·rw [if_neg c27] at H
            exact absurd H (by simp)
          ·rw [if_neg c25] at H
           (have c25b0 : decide (0 < x7_1) = false := decide_eq_false c25); (clear c25); ((first | rw [c25b0] | (simp only [i64_w, i32_w]; rw [c25b0]) | skip)); (have H' := Aside0.mk H); (clear H); (try go_wp2); (replace BK275 := Aside0.mk (blk_drew BK275.out)); (replace HB := Aside0.mk (below_drew1 HB.out)); (refine start_ (n := 33) (S := fun w' => True) (ds := []) #[false, false, false, false, false, false, false, false, false, false, false, false, false, false, false, false, false, false, false, false, false, false, false, false, false, false, false, false, false, false, false, false, false] (by kernel_rfl) rfl rfl trivial (fun hHeld => ?_); refine with_tabW buffer_Right.tab6 buffer_Right.bits6 (fun HT_ HW_ => ?_)); (generalize wc.drew = w40 at BK275 HB hHeld ⊢); (refine pv_ 0 26 HT_.out ?_)
           refine pv_ 1 27 HT_.out ?_
           refine pv_ 2 28 HT_.out ?_
           refine pw_ 3 29 HT_.out ?_
           refine pw_ 4 30 HT_.out ?_
           refine pw_ 5 31 HT_.out ?_
           refine pw_ 6 32 HT_.out ?_
           refine pw_ 7 33 HT_.out ?_
           refine pw_ 8 34 HT_.out ?_
           refine pw_ 9 35 HT_.out ?_
           refine pw_ 10 36 HT_.out ?_
           refine pw_ 11 37 HT_.out ?_
           refine pw_ 12 38 HT_.out ?_
           refine pw_ 13 39 HT_.out ?_
           refine pw_ 14 40 HT_.out ?_
           refine pw_ 15 41 HT_.out ?_
           refine pw_ 16 42 HT_.out ?_
           refine pw_ 17 43 HT_.out ?_
           refine pw_ 18 44 HT_.out ?_
           refine pw_ 19 45 HT_.out ?_
           refine pw_ 20 46 HT_.out ?_
           refine pw_ 21 47 HT_.out ?_
           refine pw_ 22 48 HT_.out ?_
           refine pw_ 23 49 HT_.out ?_
           refine pw_ 24 50 HT_.out ?_
           refine pw_ 25 51 HT_.out ?_
           refine pw_ 26 52 HT_.out ?_
           refine pw_ 27 53 HT_.out ?_
           refine pw_ 28 54 HT_.out ?_
           refine pw_ 29 55 HT_.out ?_
           refine pw_ 30 56 HT_.out ?_
           refine pw_ 31 57 HT_.out ?_
           refine pv_ 32 58 HT_.out ?_
           (refine done_ (done_of HT_.out (by kernel_rfl)) ?_); (try go_wp2); (go_meet)
           case rel => exact ⟨_, (false), (by first | rfl | (simp; done) | (simp [*]; done)), H', ⟨by have := HK1.out; have := HJ4.out; first | omega | exact Nat.le_refl _⟩, ⟨q39_3⟩, ⟨q39_2⟩⟩
         case rest =>
          (clear HC24); (try clear c1); (try clear c2); (try clear p2); (try clear q2); (try clear hx2); (try clear c3); (try clear c9); (try clear c10); (try clear c25); (try clear c25b0); (try clear c27); (try clear c28); (try clear p28); (try clear q28); (try clear hx28); (try clear c33); (try clear c33b0); (try clear c33b1); (try clear hx280_0); (try clear hx280_1); (try clear hx280_2); (try clear hx280_3); (try clear hx280_4); (try clear hx280_5); (try clear hx282_0); (try clear hx282_1); (try clear hx282_2); (try clear hx282_3); (try clear hx282_4); (try clear hx282_5); (try clear p280); (try clear p282); (try clear q280); (try clear q282); (obtain ⟨kq, x58_23, rfl, HA, HJ23, BK275, HB⟩ := hcut)
          cases kq with
          | zero => exact absurd HA.out (by simp [buffer_Right.j2])
          | succ kj23 =>
           (have H := HA.out); (clear HA); (simp only [buffer_Right.j2] at H); (by_cases c41 : x58_23 = true)
           ·subst c41
            (have H1 : (some false) = some r := by rw [if_pos rfl] at H; exact H); (clear H); (have H := H1); (clear H1); (obtain rfl := Option.some.inj H); (go_wp2); (go_ret); (exact ⟨by first | rfl | (simp [*, errW_none, errW_some] <;> rfl), q39_2⟩)
           ·replace c41 := Bool.eq_false_iff.mpr c41
            (subst c41); (have H1 : (buffer_Right.l0 kj23 l0 l0 (l0.length : Int) (wrap64 (x7_1 + 1))) = some r := by rw [if_neg (show ¬ (false = true) by decide)] at H; exact H); (clear H); (have H := H1); (clear H1); (have H' := Aside0.mk H); (clear H); (go_wp2); (go_roundg kj23)
            case measure => have := HK1.out; have := HJ4.out; have := HJ23.out; omega
            case rel => exact ⟨(wrap64 (x7_1 + 1)), (by first | rfl | (simp; done) | (simp [*]; done)), H', ⟨by have := HK1.out; have := HJ4.out; have := HJ23.out; omega⟩, ⟨q39_2⟩⟩
     ·rw [if_neg c4] at H
      exact absurd H (by simp)
    ·rw [if_neg c3] at H
     exact absurd H (by simp)
   ·rw [if_neg c2] at H
    (have c2b0 : decide (x7_1 < (l0.length : Int)) = false := decide_eq_false c2); (clear c2); (obtain rfl := Option.some.inj H); (go_wp2); (go_ret); (exact ⟨by first | rfl | (simp [*, errW_none, errW_some] <;> rfl), q39_0⟩)

end Go.Proofs.Ytnklnjghecmihaa.L2
