/- tight -/ -- written by wip/myprint.py
import Derived.Test.YtnklnjghecmihaaL2x0
import Derived.Test.YtnklnjghecmihaaL2P0
namespace Go.Proofs.Ytnklnjghecmihaa.L2
open Go.RowKit Go.Proofs.YtnklnjghecmihaaW PrintWords PrintLast PrintMore Mine
attribute [local go_sem] max2_int min2_int max_two min_two max_three min_three max_four min_four max2_str min2_str binOp_gtr_str binOp_leq_str binOp_geq_str
set_option linter.unusedVariables false
set_option linter.unusedSimpArgs false
theorem q41_0 {P : Prop} (h : P := by (with_reducible repeat first | exact HB.out | apply y1_ | apply y2_ | apply y3_) <;> exact HB.out) : P := h
theorem q41_1 {P : Prop} (h : P := by (with_reducible repeat first | exact HB.out | apply y1_ | apply y2_ | apply y3_ | refine y4_ ?_ GE287.out) <;> exact HB.out) : P := h

/-! ### buffer_Bytes: function 54 -/
def buffer_Bytes.l0 : Nat → Int → List (S46) → Int → Int → Option (Int)
 | 0, _, _, _, _ => none
 | k + 1, x3, x6, x7, x8 => if x8 < x7 then (if 0 ≤ x8 then (if x8 < (x6.length : Int) then ((msg_Size.f ((rd_T46 x6 x8).f0) ((rd_T46 x6 x8).f1) ((rd_T46 x6 x8).f2) ((rd_T46 x6 x8).f3) ((rd_T46 x6 x8).f4) ((rd_T46 x6 x8).f5)).bind fun t288 => (buffer_Bytes.l0 k (wrap64 (x3 + t288)) x6 x7 (wrap64 (x8 + 1)))) else (none)) else (none)) else (some x3)
def buffer_Bytes.f (k : Nat) (l0 : List (S46)) : Option (Int) := buffer_Bytes.l0 k 0 l0 (l0.length : Int) 0
theorem buffer_Bytes.mono_l : ∀ k, (∀ y0 y1 y2 y3, LeO (buffer_Bytes.l0 k y0 y1 y2 y3) (buffer_Bytes.l0 (k + 1) y0 y1 y2 y3))
 | 0 => fun _ _ _ _ r h => by simp [buffer_Bytes.l0] at h
 | k + 1 => by
  have ih0 := buffer_Bytes.mono_l k
  ·intro y0 y1 y2 y3
   unfold buffer_Bytes.l0
   repeat' (with_reducible first | exact ih0 _ _ _ _ | exact LeO.refl _ | exact LeO.none _ | refine LeO.ite ?_ ?_ | refine LeO.bind ?_ (fun _ => ?_))
theorem buffer_Bytes.mono : ∀ a0 k, LeO (buffer_Bytes.f k a0) (buffer_Bytes.f (k + 1) a0) := by
 (intro a0 k); (have ih0 := buffer_Bytes.mono_l k); (unfold buffer_Bytes.f)
 repeat' (with_reducible first | exact ih0 _ _ _ _ | exact LeO.refl _ | exact LeO.none _ | refine LeO.ite ?_ ?_ | refine LeO.bind ?_ (fun _ => ?_))
set_option maxHeartbeats 8000000 in
set_option maxRecDepth 100000 in
theorem buffer_Bytes.calls (k : Nat) (A0 : Option Addr) (c0 : Nat) (l0 : List (S46)) (r : Int) (w : World) (hr0 : Kd.C k46 w A0 l0.length l0) (hc0 : l0.length ≤ c0) (h : buffer_Bytes.f k l0 = some r) :
  Calls Try.prog 54 #[.slice A0 l0.length c0] w fun e w' => e = .returned (.int .i64 r) ∧ Below w.heap.size w w' := by
 (have hu46 := Try.underlying46); (have HR0 := Aside0.mk hr0); (have HC0 := Aside0.mk hc0); (clear hr0 hc0); (have HB := Aside0.mk (Below.refl w.heap.size w)); (have H : (buffer_Bytes.l0 k 0 l0 (l0.length : Int) 0) = some r := h); (clear h); (have H' := Aside0.mk H); (clear H); (go_enter Try.func54, Try.ntmps54); (go_wp2); (go_loopg [3, 8] k (fun kq v3 v8 w' => ∃ (x3_1 : Int) (x8_1 : Int), v3 = .int .i64 x3_1 ∧ v8 = .int .i64 x8_1 ∧ Aside0 (buffer_Bytes.l0 kq x3_1 l0 (l0.length : Int) x8_1 = some r) ∧ Aside0 (kq ≤ k) ∧ Aside0 (Below w.heap.size w w')))
 case atStart => exact ⟨(0), (0), (by first | rfl | (simp; done) | (simp [*]; done)), (by first | rfl | (simp; done) | (simp [*]; done)), H', ⟨Nat.le_refl _⟩, ⟨q41_0⟩⟩
 case round =>
  (clear H'); (obtain ⟨x3_1, x8_1, rfl, rfl, HA, HK1, HB⟩ := hrel)
  cases gk with
  | zero => exact absurd HA.out (by simp [buffer_Bytes.l0])
  | succ k1 =>
   (have H := HA.out); (clear HA); (simp only [buffer_Bytes.l0] at H); (by_cases c2 : x8_1 < (l0.length : Int))
   ·rw [if_pos c2] at H
    (have c2b0 : decide (x8_1 < (l0.length : Int)) = true := decide_eq_true c2); (clear c2); (by_cases c3 : 0 ≤ x8_1)
    ·rw [if_pos c3] at H
     (have c3b0 : decide (0 ≤ x8_1) = true := decide_eq_true c3); (clear c3); (by_cases c4 : x8_1 < (l0.length : Int))
     ·rw [if_pos c4] at H
      (have c4b0 : decide (x8_1 < (l0.length : Int)) = true := decide_eq_true c4); (clear c4); (replace H := Option.bind_eq_some_iff.mp H); (obtain ⟨t288, A50, H⟩ := H); (replace H : (buffer_Bytes.l0 k1 (wrap64 (x3_1 + t288)) l0 (l0.length : Int) (wrap64 (x8_1 + 1))) = some r := H); (have A5 := Aside0.mk A50); (clear A50); (have H' := Aside0.mk H); (clear H); (have p286 : 0 ≤ (x8_1 : Int) := of_decide_eq_true (by first | (with_reducible assumption) | assumption)); (have q286 : x8_1 < (l0.length : Int) := of_decide_eq_true (by first | (with_reducible assumption) | assumption)); (obtain ⟨ad286, e286, hx286_0, hx286_1, hx286_2, hx286_3, hx286_4, hx286_5⟩ := at_T46 HR0.out x8_1 p286 q286); (cases e286); (replace hx286_0 := c1_ HB hx286_0); (replace hx286_1 := c1_ HB hx286_1); (replace hx286_2 := c1_ HB hx286_2); (replace hx286_3 := c1_ HB hx286_3); (replace hx286_4 := c1_ HB hx286_4)
      (replace hx286_5 := c1_ HB hx286_5); (replace p286 := eq_true p286); (replace q286 := eq_true q286)
      go_wp2_with (first | ((with_reducible refine gate_dst (N := 5) rfl ?_); refine box_event ?hg (N := 5) ?hd (cs := #[.int .u8 0, .int .i64 0, .string ⟨#[]⟩, .string ⟨#[]⟩, .string ⟨#[]⟩, .int .u64 0]) (t := 46) ?hr ?_; (case hd => rfl); (case hg => rfl); (case hr => first | (go_simp; done) | (go_simp; rfl)); intro gb287 hg w6 hbox hb; have n0_ := Aside0.mk (below_step (q41_0) hb); have n1_ := Aside0.mk (hbox); have n2_ := Aside0.mk (hs_ hg (q41_0)); have n3_ := n2_; clear HB; have HB := n0_; have BK287 := n1_; have GW287 := n2_; have GE287 := n3_; clear n0_ n1_ n2_ n3_; clear hb hbox hg; obtain ⟨hcz7_0, hcz7_1, hcz7_2, hcz7_3, hcz7_4, hcz7_5, hfz7_0, hfz7_1, hfz7_2, hfz7_3, hfz7_4, hfz7_5⟩ := bf6_ BK287) | ((with_reducible refine gate_callee (f := 108) rfl ?_); refine goesL_ (some 14) rfl rfl Try.func108 (by kernel_rfl) rfl #[.agg #[.int .u8 ((rd_T46 l0 x8_1).f0), .int .i64 ((rd_T46 l0 x8_1).f1), .string ((rd_T46 l0 x8_1).f2), .string ((rd_T46 l0 x8_1).f3), .string ((rd_T46 l0 x8_1).f4), .int .u64 ((rd_T46 l0 x8_1).f5)]] rfl (by (try simp only [List.map_toArray, List.map_cons, List.map_nil]); first | done | rfl) ?_; (with_reducible refine (msg_Size.calls ((rd_T46 l0 x8_1).f0) ((rd_T46 l0 x8_1).f1) ((rd_T46 l0 x8_1).f2) ((rd_T46 l0 x8_1).f3) ((rd_T46 l0 x8_1).f4) ((rd_T46 l0 x8_1).f5) t288 _ A5.out).mono ?_); rintro e w8 ⟨rfl, hb⟩; refine ⟨_, rfl, ?_⟩; have n0_ := Aside0.mk (blk_below (g := gb287) (o := .cells #[.int .u8 ((rd_T46 l0 x8_1).f0), .int .i64 ((rd_T46 l0 x8_1).f1), .string ((rd_T46 l0 x8_1).f2), .string ((rd_T46 l0 x8_1).f3), .string ((rd_T46 l0 x8_1).f4), .int .u64 ((rd_T46 l0 x8_1).f5)] 46 (0, 0)) (by (with_reducible repeat first | apply z1_ | apply z2_ | apply z3_); refine blk_put (cs := #[.int .u8 ((rd_T46 l0 x8_1).f0), .int .i64 ((rd_T46 l0 x8_1).f1), .string ((rd_T46 l0 x8_1).f2), .string ((rd_T46 l0 x8_1).f3), .string ((rd_T46 l0 x8_1).f4), .int .u64 0]) ?_ 5 _ rfl; (with_reducible repeat first | apply z1_ | apply z2_ | apply z3_); refine blk_put (cs := #[.int .u8 ((rd_T46 l0 x8_1).f0), .int .i64 ((rd_T46 l0 x8_1).f1), .string ((rd_T46 l0 x8_1).f2), .string ((rd_T46 l0 x8_1).f3), .string ⟨#[]⟩, .int .u64 0]) ?_ 4 _ rfl; (with_reducible repeat first | apply z1_ | apply z2_ | apply z3_); refine blk_put (cs := #[.int .u8 ((rd_T46 l0 x8_1).f0), .int .i64 ((rd_T46 l0 x8_1).f1), .string ((rd_T46 l0 x8_1).f2), .string ⟨#[]⟩, .string ⟨#[]⟩, .int .u64 0]) ?_ 3 _ rfl; (with_reducible repeat first | apply z1_ | apply z2_ | apply z3_); refine blk_put (cs := #[.int .u8 ((rd_T46 l0 x8_1).f0), .int .i64 ((rd_T46 l0 x8_1).f1), .string ⟨#[]⟩, .string ⟨#[]⟩, .string ⟨#[]⟩, .int .u64 0]) ?_ 2 _ rfl; (with_reducible repeat first | apply z1_ | apply z2_ | apply z3_); refine blk_put (cs := #[.int .u8 ((rd_T46 l0 x8_1).f0), .int .i64 0, .string ⟨#[]⟩, .string ⟨#[]⟩, .string ⟨#[]⟩, .int .u64 0]) ?_ 1 _ rfl; (with_reducible repeat first | apply z1_ | apply z2_ | apply z3_); refine blk_put (cs := #[.int .u8 0, .int .i64 0, .string ⟨#[]⟩, .string ⟨#[]⟩, .string ⟨#[]⟩, .int .u64 0]) ?_ 0 _ rfl; (with_reducible repeat first | apply z1_ | apply z2_ | apply z3_); exact BK287.out) hb); have n1_ := Aside0.mk (below_step (q41_1) hb); clear BK287; clear HB; have BK287 := n0_; have HB := n1_; clear n0_ n1_; (try clear hb); (try clear hb2); (try clear hk); (try clear hi)))
      go_roundg k1
      case measure => have := HK1.out; omega
      case rel => exact ⟨(wrap64 (x3_1 + t288)), (wrap64 (x8_1 + 1)), (by first | rfl | (simp; done) | (simp [*]; done)), (by first | rfl | (simp; done) | (simp [*]; done)), H', ⟨by have := HK1.out; omega⟩, ⟨q41_1⟩⟩
     ·rw [if_neg c4] at H
      exact absurd H (by simp)
    ·rw [if_neg c3] at H
     exact absurd H (by simp)
   ·rw [if_neg c2] at H
    (have c2b0 : decide (x8_1 < (l0.length : Int)) = false := decide_eq_false c2); (clear c2); (obtain rfl := Option.some.inj H); (go_wp2); (go_ret); (exact ⟨by first | rfl | (simp [*, errW_none, errW_some] <;> rfl), q41_0⟩)

end Go.Proofs.Ytnklnjghecmihaa.L2
