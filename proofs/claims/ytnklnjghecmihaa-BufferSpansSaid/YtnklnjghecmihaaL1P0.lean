/- tight -/ -- written by wip/myprint.py and wip/pack.py
import Derived.Test.YtnklnjghecmihaaL1x0
namespace Go.Proofs.Ytnklnjghecmihaa.L1
open Go.RowKit Go.Proofs.YtnklnjghecmihaaW PrintWords PrintLast PrintMore Mine
attribute [local go_sem] max2_int min2_int max_two min_two max_three min_three max_four min_four max2_str min2_str binOp_gtr_str binOp_leq_str binOp_geq_str
set_option linter.unusedVariables false
set_option linter.unusedSimpArgs false
/-! ### catchmentref02_Right: function 52 -/
def catchmentref02_Right.f (a0_0 : ByteArray) (a0_1 : ByteArray) : Option (Bool) := if a0_1.toList = ([] : List UInt8) then (some true) else (some (Op.bytesLess a0_0.toList a0_1.toList))
set_option maxHeartbeats 8000000 in
set_option maxRecDepth 100000 in
theorem catchmentref02_Right.calls (a0_0 : ByteArray) (a0_1 : ByteArray) (r : Bool) (w : World) (h : catchmentref02_Right.f a0_0 a0_1 = some r) :
  Calls Try.prog 52 #[.agg #[.string a0_0, .string a0_1]] w fun e w' => e = .returned (.bool r) ∧ Below w.heap.size w w' := by
 (have hu48 := Try.underlying48); (have HB := Aside0.mk (Below.refl w.heap.size w)); (have H : (if a0_1.toList = ([] : List UInt8) then (some true) else (some (Op.bytesLess a0_0.toList a0_1.toList))) = some r := h); (clear h); (by_cases c2 : a0_1.toList = ([] : List UInt8))
 ·rw [if_pos c2] at H
  (have c2b0 : (a0_1.toList == ([] : List UInt8)) = true := beq_iff_eq.mpr c2); (have c2b1 : (a0_1.toList != ([] : List UInt8)) = false := bne_eq_false_iff_eq.mpr c2); (clear c2); (obtain rfl := Option.some.inj H); (go_enter Try.func52, Try.ntmps52)
  go_wp2_with (first | ((with_reducible refine gate_dst (N := 1) rfl ?_); refine box_event ?hg (N := 1) ?hd (cs := #[.string a0_0, .string a0_1]) (t := 48) ?hr ?_; (case hd => rfl); (case hg => rfl); (case hr => first | (go_simp; done) | (go_simp; rfl)); intro gb106 hg w3 hbox hb; have n0_ := Aside0.mk (below_step (by (with_reducible repeat first | exact HB.out | apply y1_ | apply y2_ | apply y3_) <;> exact HB.out) hb); have n1_ := Aside0.mk (hbox); have n2_ := Aside0.mk (hs_ hg (by (with_reducible repeat first | exact HB.out | apply y1_ | apply y2_ | apply y3_) <;> exact HB.out)); have n3_ := n2_; clear HB; have HB := n0_; have BK106 := n1_; have GW106 := n2_; have GE106 := n3_; clear n0_ n1_ n2_ n3_; clear hb hbox hg; have hcz4_0 : w3.cell? ⟨gb106, 0, none⟩ = some (.string a0_0) := (b_ BK106 0); have hcz4_1 : w3.cell? ⟨gb106, 1, none⟩ = some (.string a0_1) := (b_ BK106 1); have hfz4_0 := blk_frozen BK106.out 0; have hfz4_1 := blk_frozen BK106.out 1))
  (go_ret); (exact ⟨by first | rfl | (simp [*, errW_none, errW_some] <;> rfl), by (with_reducible repeat first | exact HB.out | apply y1_ | apply y2_ | apply y3_ | refine y4_ ?_ GE106.out) <;> exact HB.out⟩)
 ·rw [if_neg c2] at H
  (have c2b0 : (a0_1.toList == ([] : List UInt8)) = false := beq_eq_false_iff_ne.mpr c2); (have c2b1 : (a0_1.toList != ([] : List UInt8)) = true := bne_iff_ne.mpr c2); (obtain rfl := Option.some.inj H); (go_enter Try.func52, Try.ntmps52)
  go_wp2_with (first | ((with_reducible refine gate_dst (N := 1) rfl ?_); refine box_event ?hg (N := 1) ?hd (cs := #[.string a0_0, .string a0_1]) (t := 48) ?hr ?_; (case hd => rfl); (case hg => rfl); (case hr => first | (go_simp; done) | (go_simp; rfl)); intro gb106 hg w5 hbox hb; have n0_ := Aside0.mk (below_step (by (with_reducible repeat first | exact HB.out | apply y1_ | apply y2_ | apply y3_) <;> exact HB.out) hb); have n1_ := Aside0.mk (hbox); have n2_ := Aside0.mk (hs_ hg (by (with_reducible repeat first | exact HB.out | apply y1_ | apply y2_ | apply y3_) <;> exact HB.out)); have n3_ := n2_; clear HB; have HB := n0_; have BK106 := n1_; have GW106 := n2_; have GE106 := n3_; clear n0_ n1_ n2_ n3_; clear hb hbox hg; have hcz6_0 : w5.cell? ⟨gb106, 0, none⟩ = some (.string a0_0) := (b_ BK106 0); have hcz6_1 : w5.cell? ⟨gb106, 1, none⟩ = some (.string a0_1) := (b_ BK106 1); have hfz6_0 := blk_frozen BK106.out 0; have hfz6_1 := blk_frozen BK106.out 1))
  (go_ret); (exact ⟨by first | rfl | (simp [*, errW_none, errW_some] <;> rfl), by (with_reducible repeat first | exact HB.out | apply y1_ | apply y2_ | apply y3_ | refine y4_ ?_ GE106.out) <;> exact HB.out⟩)
/-! ### catchmentref04_Point: function 116 -/
def catchmentref04_Point.f (a0_0 : Int) (a0_1 : Int) (a0_2 : ByteArray) (a0_3 : ByteArray) (a0_4 : ByteArray) (a0_5 : Int) : Option (Bool) := if a0_0 ≥ 1 then (some (decide (a0_0 ≤ 3))) else (some false)
set_option maxHeartbeats 8000000 in
set_option maxRecDepth 100000 in
theorem catchmentref04_Point.calls (a0_0 : Int) (a0_1 : Int) (a0_2 : ByteArray) (a0_3 : ByteArray) (a0_4 : ByteArray) (a0_5 : Int) (r : Bool) (w : World) (h : catchmentref04_Point.f a0_0 a0_1 a0_2 a0_3 a0_4 a0_5 = some r) :
  Calls Try.prog 116 #[.agg #[.int .u8 a0_0, .int .i64 a0_1, .string a0_2, .string a0_3, .string a0_4, .int .u64 a0_5]] w fun e w' => e = .returned (.bool r) ∧ Below w.heap.size w w' := by
 (have hu46 := Try.underlying46); (have HB := Aside0.mk (Below.refl w.heap.size w)); (have H : (if a0_0 ≥ 1 then (some (decide (a0_0 ≤ 3))) else (some false)) = some r := h); (clear h); (by_cases c2 : a0_0 ≥ 1)
 ·rw [if_pos c2] at H
  (have c2b0 : decide (1 ≤ a0_0) = true := decide_eq_true c2); (clear c2); (obtain rfl := Option.some.inj H); (go_enter Try.func116, Try.ntmps116)
  go_wp2_with (first | ((with_reducible refine gate_dst (N := 1) rfl ?_); refine box_event ?hg (N := 1) ?hd (cs := #[.int .u8 a0_0, .int .i64 a0_1, .string a0_2, .string a0_3, .string a0_4, .int .u64 a0_5]) (t := 46) ?hr ?_; (case hd => rfl); (case hg => rfl); (case hr => first | (go_simp; done) | (go_simp; rfl)); intro gb107 hg w3 hbox hb; have n0_ := Aside0.mk (below_step (by (with_reducible repeat first | exact HB.out | apply y1_ | apply y2_ | apply y3_) <;> exact HB.out) hb); have n1_ := Aside0.mk (hbox); have n2_ := Aside0.mk (hs_ hg (by (with_reducible repeat first | exact HB.out | apply y1_ | apply y2_ | apply y3_) <;> exact HB.out)); have n3_ := n2_; clear HB; have HB := n0_; have BK107 := n1_; have GW107 := n2_; have GE107 := n3_; clear n0_ n1_ n2_ n3_; clear hb hbox hg; have hcz4_0 : w3.cell? ⟨gb107, 0, none⟩ = some (.int .u8 a0_0) := (b_ BK107 0); have hcz4_1 : w3.cell? ⟨gb107, 1, none⟩ = some (.int .i64 a0_1) := (b_ BK107 1); have hcz4_2 : w3.cell? ⟨gb107, 2, none⟩ = some (.string a0_2) := (b_ BK107 2); have hcz4_3 : w3.cell? ⟨gb107, 3, none⟩ = some (.string a0_3) := (b_ BK107 3); have hcz4_4 : w3.cell? ⟨gb107, 4, none⟩ = some (.string a0_4) := (b_ BK107 4); have hcz4_5 : w3.cell? ⟨gb107, 5, none⟩ = some (.int .u64 a0_5) := (b_ BK107 5); have hfz4_0 := blk_frozen BK107.out 0; have hfz4_1 := blk_frozen BK107.out 1; have hfz4_2 := blk_frozen BK107.out 2; have hfz4_3 := blk_frozen BK107.out 3; have hfz4_4 := blk_frozen BK107.out 4; have hfz4_5 := blk_frozen BK107.out 5))
  (go_ret); (exact ⟨by first | rfl | (simp [*, errW_none, errW_some] <;> rfl), by (with_reducible repeat first | exact HB.out | apply y1_ | apply y2_ | apply y3_ | refine y4_ ?_ GE107.out) <;> exact HB.out⟩)
 ·rw [if_neg c2] at H
  (have c2b0 : decide (1 ≤ a0_0) = false := decide_eq_false c2); (clear c2); (obtain rfl := Option.some.inj H); (go_enter Try.func116, Try.ntmps116)
  go_wp2_with (first | ((with_reducible refine gate_dst (N := 1) rfl ?_); refine box_event ?hg (N := 1) ?hd (cs := #[.int .u8 a0_0, .int .i64 a0_1, .string a0_2, .string a0_3, .string a0_4, .int .u64 a0_5]) (t := 46) ?hr ?_; (case hd => rfl); (case hg => rfl); (case hr => first | (go_simp; done) | (go_simp; rfl)); intro gb107 hg w5 hbox hb; have n0_ := Aside0.mk (below_step (by (with_reducible repeat first | exact HB.out | apply y1_ | apply y2_ | apply y3_) <;> exact HB.out) hb); have n1_ := Aside0.mk (hbox); have n2_ := Aside0.mk (hs_ hg (by (with_reducible repeat first | exact HB.out | apply y1_ | apply y2_ | apply y3_) <;> exact HB.out)); have n3_ := n2_; clear HB; have HB := n0_; have BK107 := n1_; have GW107 := n2_; have GE107 := n3_; clear n0_ n1_ n2_ n3_; clear hb hbox hg; have hcz6_0 : w5.cell? ⟨gb107, 0, none⟩ = some (.int .u8 a0_0) := (b_ BK107 0); have hcz6_1 : w5.cell? ⟨gb107, 1, none⟩ = some (.int .i64 a0_1) := (b_ BK107 1); have hcz6_2 : w5.cell? ⟨gb107, 2, none⟩ = some (.string a0_2) := (b_ BK107 2); have hcz6_3 : w5.cell? ⟨gb107, 3, none⟩ = some (.string a0_3) := (b_ BK107 3); have hcz6_4 : w5.cell? ⟨gb107, 4, none⟩ = some (.string a0_4) := (b_ BK107 4); have hcz6_5 : w5.cell? ⟨gb107, 5, none⟩ = some (.int .u64 a0_5) := (b_ BK107 5); have hfz6_0 := blk_frozen BK107.out 0; have hfz6_1 := blk_frozen BK107.out 1; have hfz6_2 := blk_frozen BK107.out 2; have hfz6_3 := blk_frozen BK107.out 3; have hfz6_4 := blk_frozen BK107.out 4; have hfz6_5 := blk_frozen BK107.out 5))
  (go_ret); (exact ⟨by first | rfl | (simp [*, errW_none, errW_some] <;> rfl), by (with_reducible repeat first | exact HB.out | apply y1_ | apply y2_ | apply y3_ | refine y4_ ?_ GE107.out) <;> exact HB.out⟩)
/-! ### catchmentref02_Meet: function 88 -/
def catchmentref02_Meet.ahd (a e : List UInt8) : Bool := e.isEmpty || Op.bytesLess a e
def catchmentref02_Meet.bef (a b : List UInt8) : Bool := !a.isEmpty && (b.isEmpty || Op.bytesLess a b)
def catchmentref02_Meet.f (a0_0 : ByteArray) (a0_1 : ByteArray) (a1_0 : ByteArray) (a1_1 : ByteArray) : Option (ByteArray × ByteArray × Bool) :=
 if catchmentref02_Meet.ahd a0_0.toList a0_1.toList = true ∧ catchmentref02_Meet.ahd a1_0.toList a1_1.toList = true ∧ catchmentref02_Meet.ahd (smx a0_0 a1_0).toList (if catchmentref02_Meet.bef a1_1.toList a0_1.toList = true then a1_1 else a0_1).toList = true then
  some (smx a0_0 a1_0, (if catchmentref02_Meet.bef a1_1.toList a0_1.toList = true then a1_1 else a0_1), true) else some (⟨#[]⟩, ⟨#[]⟩, false)
set_option maxHeartbeats 8000000 in
set_option maxRecDepth 100000 in
theorem catchmentref02_Meet.calls (a0_0 : ByteArray) (a0_1 : ByteArray) (a1_0 : ByteArray) (a1_1 : ByteArray) (r1 : ByteArray) (r2 : ByteArray) (r3 : Bool) (w : World) (h : catchmentref02_Meet.f a0_0 a0_1 a1_0 a1_1 = some (r1, r2, r3)) :
  Calls Try.prog 88 #[.agg #[.string a0_0, .string a0_1], .agg #[.string a1_0, .string a1_1]] w fun e w' => e = .returned (.tuple #[.agg #[.string r1, .string r2], .bool r3]) ∧ Below w.heap.size w w' := by
 have H := Aside0.mk h
 clear h
 go_enter Try.func88, Try.ntmps88
 go_wp2
 all_goals
  have h := H.out
  clear H
  refine bodyPost_ret (v := .tuple #[.agg #[.string r1, .string r2], .bool r3]) ?_ rfl ⟨rfl, by repeat (first | exact Below.refl _ _ | apply below_alloc | refine below_set ?_ (by simp))⟩
  first | (simp_all [results, Try.results88, go_sem, catchmentref02_Meet.f, catchmentref02_Meet.ahd, catchmentref02_Meet.bef, smx]; done) | (simp_all [results, Try.results88, go_sem, catchmentref02_Meet.f, catchmentref02_Meet.ahd, catchmentref02_Meet.bef, smx]; exact h.1.symm.trans h.2.1)
/-! ### cmp_Or_int: function 131 -/
def cmp_Or_int.l0 : Nat → Int → List Int → Int → Int → Option (Int)
 | 0, _, _, _, _ => none
 | k + 1, x3, x6, x7, x8 => if x8 < x7 then (if 0 ≤ x8 then (if x8 < (x6.length : Int) then (if (rd x6 x8) = x3 then (cmp_Or_int.l0 k x3 x6 x7 (wrap64 (x8 + 1))) else (some (rd x6 x8))) else (none)) else (none)) else (some x3)
def cmp_Or_int.f (k : Nat) (l0 : List Int) : Option (Int) := cmp_Or_int.l0 k 0 l0 (l0.length : Int) 0
theorem cmp_Or_int.mono_l : ∀ k, (∀ y0 y1 y2 y3, LeO (cmp_Or_int.l0 k y0 y1 y2 y3) (cmp_Or_int.l0 (k + 1) y0 y1 y2 y3))
 | 0 => fun _ _ _ _ r h => by simp [cmp_Or_int.l0] at h
 | k + 1 => by
  have ih0 := cmp_Or_int.mono_l k
  ·intro y0 y1 y2 y3
   unfold cmp_Or_int.l0
   repeat' (with_reducible first | exact ih0 _ _ _ _ | exact LeO.refl _ | exact LeO.none _ | refine LeO.ite ?_ ?_ | refine LeO.bind ?_ (fun _ => ?_))
theorem cmp_Or_int.mono : ∀ a0 k, LeO (cmp_Or_int.f k a0) (cmp_Or_int.f (k + 1) a0) := by
 (intro a0 k); (have ih0 := cmp_Or_int.mono_l k); (unfold cmp_Or_int.f)
 repeat' (with_reducible first | exact ih0 _ _ _ _ | exact LeO.refl _ | exact LeO.none _ | refine LeO.ite ?_ ?_ | refine LeO.bind ?_ (fun _ => ?_))
set_option maxHeartbeats 8000000 in
set_option maxRecDepth 100000 in
theorem cmp_Or_int.calls (k : Nat) (A0 : Option Addr) (c0 : Nat) (l0 : List Int) (r : Int) (w : World) (hr0 : Kd.C (Kd.int .i64) w A0 l0.length l0) (hc0 : l0.length ≤ c0) (h : cmp_Or_int.f k l0 = some r) :
  Calls Try.prog 131 #[.slice A0 l0.length c0] w fun e w' => e = .returned (.int .i64 r) ∧ Drawn0 w w' := by
 (have HR0 := Aside0.mk hr0); (have HC0 := Aside0.mk hc0); (clear hr0 hc0); (have H : (cmp_Or_int.l0 k 0 l0 (l0.length : Int) 0) = some r := h); (clear h); (have H' := Aside0.mk H); (clear H); (go_enter Try.func131, Try.ntmps131); (go_wp2); (go_loopg [8] k (fun kq v8 w' => ∃ (x8_1 : Int), v8 = .int .i64 x8_1 ∧ Aside0 (cmp_Or_int.l0 kq 0 l0 (l0.length : Int) x8_1 = some r) ∧ Aside0 (kq ≤ k) ∧ Drawn0 w w'))
 case atStart => exact ⟨(0), (by first | rfl | (simp; done) | (simp [*]; done)), H', ⟨Nat.le_refl _⟩, by repeat (first | exact Drawn0.refl _ | apply Drawn0.step)⟩
 case round =>
  (clear H'); (try clear c1); (obtain ⟨x8_1, rfl, HA, HK1, ⟨m1, rfl⟩⟩ := hrel)
  cases gk with
  | zero => exact absurd HA.out (by simp [cmp_Or_int.l0])
  | succ k1 =>
   (have H := HA.out); (clear HA); (simp only [cmp_Or_int.l0] at H); (by_cases c2 : x8_1 < (l0.length : Int))
   ·rw [if_pos c2] at H
    (have c2b0 : decide (x8_1 < (l0.length : Int)) = true := decide_eq_true c2); (clear c2); (by_cases c3 : 0 ≤ x8_1)
    ·rw [if_pos c3] at H
     (have c3b0 : decide (0 ≤ x8_1) = true := decide_eq_true c3); (clear c3); (by_cases c4 : x8_1 < (l0.length : Int))
     ·rw [if_pos c4] at H
      (have c4b0 : decide (x8_1 < (l0.length : Int)) = true := decide_eq_true c4); (clear c4); (by_cases c5 : (rd l0 x8_1) = 0)
      ·rw [if_pos c5] at H
       (have c5b0 : ((rd l0 x8_1) == 0) = true := beq_iff_eq.mpr c5); (have c5b1 : ((rd l0 x8_1) != 0) = false := bne_eq_false_iff_eq.mpr c5); (clear c5); (have H' := Aside0.mk H); (clear H); (have p132 : 0 ≤ (x8_1 : Int) := of_decide_eq_true (by first | (with_reducible assumption) | assumption)); (have q132 : x8_1 < (l0.length : Int) := of_decide_eq_true (by first | (with_reducible assumption) | assumption)); (obtain ⟨ad132, e132, hx132_0⟩ := Kd.at_int HR0.out x8_1 p132 q132); (cases e132); (replace p132 := eq_true p132); (replace q132 := eq_true q132); (go_wp2); (go_roundg k1)
       case measure => have := HK1.out; omega
       case rel => exact ⟨(wrap64 (x8_1 + 1)), (by first | rfl | (simp; done) | (simp [*]; done)), H', ⟨by have := HK1.out; omega⟩, by repeat (first | exact Drawn0.refl _ | apply Drawn0.step)⟩
      ·rw [if_neg c5] at H
       (have c5b0 : ((rd l0 x8_1) == 0) = false := beq_eq_false_iff_ne.mpr c5); (have c5b1 : ((rd l0 x8_1) != 0) = true := bne_iff_ne.mpr c5); (obtain rfl := Option.some.inj H); (have p132 : 0 ≤ (x8_1 : Int) := of_decide_eq_true (by first | (with_reducible assumption) | assumption)); (have q132 : x8_1 < (l0.length : Int) := of_decide_eq_true (by first | (with_reducible assumption) | assumption)); (obtain ⟨ad132, e132, hx132_0⟩ := Kd.at_int HR0.out x8_1 p132 q132); (cases e132); (replace p132 := eq_true p132); (replace q132 := eq_true q132); (go_wp2); (go_ret); (exact ⟨by first | rfl | (simp; done) | (simp [*]; done), by repeat (first | exact Drawn0.refl _ | apply Drawn0.step)⟩)
     ·rw [if_neg c4] at H
      exact absurd H (by simp)
    ·rw [if_neg c3] at H
     exact absurd H (by simp)
   ·rw [if_neg c2] at H
    (have c2b0 : decide (x8_1 < (l0.length : Int)) = false := decide_eq_false c2); (clear c2); (obtain rfl := Option.some.inj H); (go_wp2); (go_ret); (exact ⟨by first | rfl | (simp; done) | (simp [*]; done), by repeat (first | exact Drawn0.refl _ | apply Drawn0.step)⟩)
/-! ### cmp_isNaN_int: function 157 -/
def cmp_isNaN_int.f (a0 : Int) : Option (Bool) := some (a0 != a0)
set_option maxHeartbeats 8000000 in
set_option maxRecDepth 100000 in
theorem cmp_isNaN_int.calls (a0 : Int) (r : Bool) (w : World) (h : cmp_isNaN_int.f a0 = some r) :
  Calls Try.prog 157 #[.int .i64 a0] w fun e w' => e = .returned (.bool r) ∧ Drawn0 w w' := by
 have H : (some (a0 != a0)) = some r := h
 clear h
 obtain rfl := Option.some.inj H
 go_enter Try.func157, Try.ntmps157
 go_wp2
 go_ret
 exact ⟨by first | rfl | (simp; done) | (simp [*]; done), by repeat (first | exact Drawn0.refl _ | apply Drawn0.step)⟩
/-! ### cmp_isNaN_string: function 158 -/
def cmp_isNaN_string.f (a0 : ByteArray) : Option (Bool) := some (a0.toList != a0.toList)
set_option maxHeartbeats 8000000 in
set_option maxRecDepth 100000 in
theorem cmp_isNaN_string.calls (a0 : ByteArray) (r : Bool) (w : World) (h : cmp_isNaN_string.f a0 = some r) :
  Calls Try.prog 158 #[.string a0] w fun e w' => e = .returned (.bool r) ∧ Drawn0 w w' := by
 have H : (some (a0.toList != a0.toList)) = some r := h
 clear h
 obtain rfl := Option.some.inj H
 go_enter Try.func158, Try.ntmps158
 go_wp2
 go_ret
 exact ⟨by first | rfl | (simp; done) | (simp [*]; done), by repeat (first | exact Drawn0.refl _ | apply Drawn0.step)⟩
/-! ### msg_IsPoint: function 97 -/
def msg_IsPoint.f (a0_0 : Int) (a0_1 : Int) (a0_2 : ByteArray) (a0_3 : ByteArray) (a0_4 : ByteArray) (a0_5 : Int) : Option (Bool) := if a0_0 = 1 then (some true) else (if a0_0 = 2 then (some true) else (some (a0_0 == 3)))
set_option maxHeartbeats 8000000 in
set_option maxRecDepth 100000 in
theorem msg_IsPoint.calls (a0_0 : Int) (a0_1 : Int) (a0_2 : ByteArray) (a0_3 : ByteArray) (a0_4 : ByteArray) (a0_5 : Int) (r : Bool) (w : World) (h : msg_IsPoint.f a0_0 a0_1 a0_2 a0_3 a0_4 a0_5 = some r) :
  Calls Try.prog 97 #[.agg #[.int .u8 a0_0, .int .i64 a0_1, .string a0_2, .string a0_3, .string a0_4, .int .u64 a0_5]] w fun e w' => e = .returned (.bool r) ∧ Below w.heap.size w w' := by
 (have hu46 := Try.underlying46); (have HB := Aside0.mk (Below.refl w.heap.size w)); (have H : (if a0_0 = 1 then (some true) else (if a0_0 = 2 then (some true) else (some (a0_0 == 3)))) = some r := h); (clear h); (by_cases c2 : a0_0 = 1)
 ·rw [if_pos c2] at H
  (have c2b0 : (a0_0 == 1) = true := beq_iff_eq.mpr c2); (have c2b1 : (a0_0 != 1) = false := bne_eq_false_iff_eq.mpr c2); (clear c2); (obtain rfl := Option.some.inj H); (go_enter Try.func97, Try.ntmps97)
  go_wp2_with (first | ((with_reducible refine gate_dst (N := 1) rfl ?_); refine box_event ?hg (N := 1) ?hd (cs := #[.int .u8 a0_0, .int .i64 a0_1, .string a0_2, .string a0_3, .string a0_4, .int .u64 a0_5]) (t := 46) ?hr ?_; (case hd => rfl); (case hg => rfl); (case hr => first | (go_simp; done) | (go_simp; rfl)); intro gb187 hg w3 hbox hb; have n0_ := Aside0.mk (below_step (by (with_reducible repeat first | exact HB.out | apply y1_ | apply y2_ | apply y3_) <;> exact HB.out) hb); have n1_ := Aside0.mk (hbox); have n2_ := Aside0.mk (hs_ hg (by (with_reducible repeat first | exact HB.out | apply y1_ | apply y2_ | apply y3_) <;> exact HB.out)); have n3_ := n2_; clear HB; have HB := n0_; have BK187 := n1_; have GW187 := n2_; have GE187 := n3_; clear n0_ n1_ n2_ n3_; clear hb hbox hg; have hcz4_0 : w3.cell? ⟨gb187, 0, none⟩ = some (.int .u8 a0_0) := (b_ BK187 0); have hcz4_1 : w3.cell? ⟨gb187, 1, none⟩ = some (.int .i64 a0_1) := (b_ BK187 1); have hcz4_2 : w3.cell? ⟨gb187, 2, none⟩ = some (.string a0_2) := (b_ BK187 2); have hcz4_3 : w3.cell? ⟨gb187, 3, none⟩ = some (.string a0_3) := (b_ BK187 3); have hcz4_4 : w3.cell? ⟨gb187, 4, none⟩ = some (.string a0_4) := (b_ BK187 4); have hcz4_5 : w3.cell? ⟨gb187, 5, none⟩ = some (.int .u64 a0_5) := (b_ BK187 5); have hfz4_0 := blk_frozen BK187.out 0; have hfz4_1 := blk_frozen BK187.out 1; have hfz4_2 := blk_frozen BK187.out 2; have hfz4_3 := blk_frozen BK187.out 3; have hfz4_4 := blk_frozen BK187.out 4; have hfz4_5 := blk_frozen BK187.out 5))
  (go_ret); (exact ⟨by first | rfl | (simp [*, errW_none, errW_some] <;> rfl), by (with_reducible repeat first | exact HB.out | apply y1_ | apply y2_ | apply y3_ | refine y4_ ?_ GE187.out) <;> exact HB.out⟩)
 ·rw [if_neg c2] at H
  (have c2b0 : (a0_0 == 1) = false := beq_eq_false_iff_ne.mpr c2); (have c2b1 : (a0_0 != 1) = true := bne_iff_ne.mpr c2); (by_cases c5 : a0_0 = 2)
  ·rw [if_pos c5] at H
   (have c5b0 : (a0_0 == 2) = true := beq_iff_eq.mpr c5); (have c5b1 : (a0_0 != 2) = false := bne_eq_false_iff_eq.mpr c5); (clear c5); (obtain rfl := Option.some.inj H); (go_enter Try.func97, Try.ntmps97)
   go_wp2_with (first | ((with_reducible refine gate_dst (N := 1) rfl ?_); refine box_event ?hg (N := 1) ?hd (cs := #[.int .u8 a0_0, .int .i64 a0_1, .string a0_2, .string a0_3, .string a0_4, .int .u64 a0_5]) (t := 46) ?hr ?_; (case hd => rfl); (case hg => rfl); (case hr => first | (go_simp; done) | (go_simp; rfl)); intro gb187 hg w6 hbox hb; have n0_ := Aside0.mk (below_step (by (with_reducible repeat first | exact HB.out | apply y1_ | apply y2_ | apply y3_) <;> exact HB.out) hb); have n1_ := Aside0.mk (hbox); have n2_ := Aside0.mk (hs_ hg (by (with_reducible repeat first | exact HB.out | apply y1_ | apply y2_ | apply y3_) <;> exact HB.out)); have n3_ := n2_; clear HB; have HB := n0_; have BK187 := n1_; have GW187 := n2_; have GE187 := n3_; clear n0_ n1_ n2_ n3_; clear hb hbox hg; have hcz7_0 : w6.cell? ⟨gb187, 0, none⟩ = some (.int .u8 a0_0) := (b_ BK187 0); have hcz7_1 : w6.cell? ⟨gb187, 1, none⟩ = some (.int .i64 a0_1) := (b_ BK187 1); have hcz7_2 : w6.cell? ⟨gb187, 2, none⟩ = some (.string a0_2) := (b_ BK187 2); have hcz7_3 : w6.cell? ⟨gb187, 3, none⟩ = some (.string a0_3) := (b_ BK187 3); have hcz7_4 : w6.cell? ⟨gb187, 4, none⟩ = some (.string a0_4) := (b_ BK187 4); have hcz7_5 : w6.cell? ⟨gb187, 5, none⟩ = some (.int .u64 a0_5) := (b_ BK187 5); have hfz7_0 := blk_frozen BK187.out 0; have hfz7_1 := blk_frozen BK187.out 1; have hfz7_2 := blk_frozen BK187.out 2; have hfz7_3 := blk_frozen BK187.out 3; have hfz7_4 := blk_frozen BK187.out 4; have hfz7_5 := blk_frozen BK187.out 5))
   (go_ret); (exact ⟨by first | rfl | (simp [*, errW_none, errW_some] <;> rfl), by (with_reducible repeat first | exact HB.out | apply y1_ | apply y2_ | apply y3_ | refine y4_ ?_ GE187.out) <;> exact HB.out⟩)
  ·rw [if_neg c5] at H
   (have c5b0 : (a0_0 == 2) = false := beq_eq_false_iff_ne.mpr c5); (have c5b1 : (a0_0 != 2) = true := bne_iff_ne.mpr c5); (obtain rfl := Option.some.inj H); (go_enter Try.func97, Try.ntmps97)
   go_wp2_with (first | ((with_reducible refine gate_dst (N := 1) rfl ?_); refine box_event ?hg (N := 1) ?hd (cs := #[.int .u8 a0_0, .int .i64 a0_1, .string a0_2, .string a0_3, .string a0_4, .int .u64 a0_5]) (t := 46) ?hr ?_; (case hd => rfl); (case hg => rfl); (case hr => first | (go_simp; done) | (go_simp; rfl)); intro gb187 hg w8 hbox hb; have n0_ := Aside0.mk (below_step (by (with_reducible repeat first | exact HB.out | apply y1_ | apply y2_ | apply y3_) <;> exact HB.out) hb); have n1_ := Aside0.mk (hbox); have n2_ := Aside0.mk (hs_ hg (by (with_reducible repeat first | exact HB.out | apply y1_ | apply y2_ | apply y3_) <;> exact HB.out)); have n3_ := n2_; clear HB; have HB := n0_; have BK187 := n1_; have GW187 := n2_; have GE187 := n3_; clear n0_ n1_ n2_ n3_; clear hb hbox hg; have hcz9_0 : w8.cell? ⟨gb187, 0, none⟩ = some (.int .u8 a0_0) := (b_ BK187 0); have hcz9_1 : w8.cell? ⟨gb187, 1, none⟩ = some (.int .i64 a0_1) := (b_ BK187 1); have hcz9_2 : w8.cell? ⟨gb187, 2, none⟩ = some (.string a0_2) := (b_ BK187 2); have hcz9_3 : w8.cell? ⟨gb187, 3, none⟩ = some (.string a0_3) := (b_ BK187 3); have hcz9_4 : w8.cell? ⟨gb187, 4, none⟩ = some (.string a0_4) := (b_ BK187 4); have hcz9_5 : w8.cell? ⟨gb187, 5, none⟩ = some (.int .u64 a0_5) := (b_ BK187 5); have hfz9_0 := blk_frozen BK187.out 0; have hfz9_1 := blk_frozen BK187.out 1; have hfz9_2 := blk_frozen BK187.out 2; have hfz9_3 := blk_frozen BK187.out 3; have hfz9_4 := blk_frozen BK187.out 4; have hfz9_5 := blk_frozen BK187.out 5))
   (go_ret); (exact ⟨by first | rfl | (simp [*, errW_none, errW_some] <;> rfl), by (with_reducible repeat first | exact HB.out | apply y1_ | apply y2_ | apply y3_ | refine y4_ ?_ GE187.out) <;> exact HB.out⟩)
/-! ### key_ahead: function 137 -/
def key_ahead.f (a0 : ByteArray) (a1 : ByteArray) : Option (Bool) := if a1.toList = ([] : List UInt8) then (some true) else (some (Op.bytesLess a0.toList a1.toList))
set_option maxHeartbeats 8000000 in
set_option maxRecDepth 100000 in
theorem key_ahead.calls (a0 : ByteArray) (a1 : ByteArray) (r : Bool) (w : World) (h : key_ahead.f a0 a1 = some r) :
  Calls Try.prog 137 #[.string a0, .string a1] w fun e w' => e = .returned (.bool r) ∧ Drawn0 w w' := by
 (have H : (if a1.toList = ([] : List UInt8) then (some true) else (some (Op.bytesLess a0.toList a1.toList))) = some r := h); (clear h); (by_cases c3 : a1.toList = ([] : List UInt8))
 ·rw [if_pos c3] at H
  (have c3b0 : (a1.toList == ([] : List UInt8)) = true := beq_iff_eq.mpr c3); (have c3b1 : (a1.toList != ([] : List UInt8)) = false := bne_eq_false_iff_eq.mpr c3); (clear c3); (obtain rfl := Option.some.inj H); (go_enter Try.func137, Try.ntmps137); (go_wp2); (go_ret); (exact ⟨by first | rfl | (simp; done) | (simp [*]; done), by repeat (first | exact Drawn0.refl _ | apply Drawn0.step)⟩)
 ·rw [if_neg c3] at H
  (have c3b0 : (a1.toList == ([] : List UInt8)) = false := beq_eq_false_iff_ne.mpr c3); (have c3b1 : (a1.toList != ([] : List UInt8)) = true := bne_iff_ne.mpr c3); (obtain rfl := Option.some.inj H); (go_enter Try.func137, Try.ntmps137); (go_wp2); (go_ret); (exact ⟨by first | rfl | (simp; done) | (simp [*]; done), by repeat (first | exact Drawn0.refl _ | apply Drawn0.step)⟩)
/-! ### key_RightRange: function 98 -/
def key_RightRange.f (a0_0 : ByteArray) (a0_1 : ByteArray) : Option (Bool) := (key_ahead.f a0_0 a0_1).bind fun t189 => (some t189)
set_option maxHeartbeats 8000000 in
set_option maxRecDepth 100000 in
theorem key_RightRange.calls (a0_0 : ByteArray) (a0_1 : ByteArray) (r : Bool) (w : World) (h : key_RightRange.f a0_0 a0_1 = some r) :
  Calls Try.prog 98 #[.agg #[.string a0_0, .string a0_1]] w fun e w' => e = .returned (.bool r) ∧ Below w.heap.size w w' := by
 (have hu48 := Try.underlying48); (have HB := Aside0.mk (Below.refl w.heap.size w)); (have H : ((key_ahead.f a0_0 a0_1).bind fun t189 => (some t189)) = some r := h); (clear h); (replace H := Option.bind_eq_some_iff.mp H); (obtain ⟨t189, A20, H⟩ := H); (replace H : (some t189) = some r := H); (have A2 := Aside0.mk A20); (clear A20); (obtain rfl := Option.some.inj H); (go_enter Try.func98, Try.ntmps98)
 go_wp2_with (first | ((with_reducible refine gate_dst (N := 1) rfl ?_); refine box_event ?hg (N := 1) ?hd (cs := #[.string a0_0, .string a0_1]) (t := 48) ?hr ?_; (case hd => rfl); (case hg => rfl); (case hr => first | (go_simp; done) | (go_simp; rfl)); intro gb188 hg w3 hbox hb; have n0_ := Aside0.mk (below_step (by (with_reducible repeat first | exact HB.out | apply y1_ | apply y2_ | apply y3_) <;> exact HB.out) hb); have n1_ := Aside0.mk (hbox); have n2_ := Aside0.mk (hs_ hg (by (with_reducible repeat first | exact HB.out | apply y1_ | apply y2_ | apply y3_) <;> exact HB.out)); have n3_ := n2_; clear HB; have HB := n0_; have BK188 := n1_; have GW188 := n2_; have GE188 := n3_; clear n0_ n1_ n2_ n3_; clear hb hbox hg; have hcz4_0 : w3.cell? ⟨gb188, 0, none⟩ = some (.string a0_0) := (b_ BK188 0); have hcz4_1 : w3.cell? ⟨gb188, 1, none⟩ = some (.string a0_1) := (b_ BK188 1); have hfz4_0 := blk_frozen BK188.out 0; have hfz4_1 := blk_frozen BK188.out 1) | ((with_reducible refine gate_callee (f := 137) rfl ?_); refine goesL_ (some 7) rfl rfl Try.func137 (by kernel_rfl) rfl #[.string a0_0, .string a0_1] rfl (by (try simp only [List.map_toArray, List.map_cons, List.map_nil]); first | done | rfl) ?_; (with_reducible refine (key_ahead.calls a0_0 a0_1 t189 _ A2.out).mono ?_); rintro e w' ⟨rfl, ⟨nd, rfl⟩⟩; refine ⟨_, rfl, ?_⟩))
 (go_ret); (exact ⟨by first | rfl | (simp [*, errW_none, errW_some] <;> rfl), by (with_reducible repeat first | exact HB.out | apply y1_ | apply y2_ | apply y3_ | refine y4_ ?_ GE188.out) <;> exact HB.out⟩)
/-! ### key_After: function 160 -/
def key_After.f (a0 : ByteArray) : Option (ByteArray) := if a0.size + 1 ≤ 9223372036854775807 then (some (a0 ++ (⟨#[0]⟩ : ByteArray))) else (none)
set_option maxHeartbeats 8000000 in
set_option maxRecDepth 100000 in
theorem key_After.calls (a0 : ByteArray) (r : ByteArray) (w : World) (h : key_After.f a0 = some r) :
  Calls Try.prog 160 #[.string a0] w fun e w' => e = .returned (.string r) ∧ Drawn0 w w' := by
 (have H : (if a0.size + 1 ≤ 9223372036854775807 then (some (a0 ++ (⟨#[0]⟩ : ByteArray))) else (none)) = some r := h); (clear h); (by_cases c2 : a0.size + 1 ≤ 9223372036854775807)
 ·rw [if_pos c2] at H
  (have c2b0 := eq_true c2); (have c2b1 : decide (a0.size + 1 ≤ 9223372036854775807) = true := decide_eq_true c2); (try have c2b2 : (9223372036854775807 < a0.size + 1) = False := eq_false (Nat.not_lt.2 c2)); (obtain rfl := Option.some.inj H); (go_enter Try.func160, Try.ntmps160); (go_wp2); (go_ret); (exact ⟨by first | rfl | (simp; done) | (simp [*]; done), by repeat (first | exact Drawn0.refl _ | apply Drawn0.step)⟩)
 ·rw [if_neg c2] at H
  exact absurd H (by simp)
/-! ### key_Point: function 138 -/
def key_Point.f (a0 : ByteArray) : Option (ByteArray × ByteArray) := (key_After.f a0).bind fun t191 => (some (a0, t191))
set_option maxHeartbeats 8000000 in
set_option maxRecDepth 100000 in
theorem key_Point.calls (a0 : ByteArray) (r1 : ByteArray) (r2 : ByteArray) (w : World) (h : key_Point.f a0 = some (r1, r2)) :
  Calls Try.prog 138 #[.string a0] w fun e w' => e = .returned (.agg #[.string r1, .string r2]) ∧ Below w.heap.size w w' := by
 (have hu48 := Try.underlying48); (have HB := Aside0.mk (Below.refl w.heap.size w)); (have H : ((key_After.f a0).bind fun t191 => (some (a0, t191))) = some (r1, r2) := h); (clear h); (replace H := Option.bind_eq_some_iff.mp H); (obtain ⟨t191, A20, H⟩ := H); (replace H : (some (a0, t191)) = some (r1, r2) := H); (have A2 := Aside0.mk A20); (clear A20); (simp only [Option.some.injEq, Prod.mk.injEq] at H); (obtain ⟨rfl, rfl⟩ := H); (go_enter Try.func138, Try.ntmps138)
 go_wp2_with (first | ((with_reducible refine gate_dst (N := 2) rfl ?_); refine box_event ?hg (N := 2) ?hd (cs := #[.string ⟨#[]⟩, .string ⟨#[]⟩]) (t := 48) ?hr ?_; (case hd => rfl); (case hg => rfl); (case hr => first | (go_simp; done) | (go_simp; rfl)); intro gb190 hg w3 hbox hb; have n0_ := Aside0.mk (below_step (by (with_reducible repeat first | exact HB.out | apply y1_ | apply y2_ | apply y3_) <;> exact HB.out) hb); have n1_ := Aside0.mk (hbox); have n2_ := Aside0.mk (hs_ hg (by (with_reducible repeat first | exact HB.out | apply y1_ | apply y2_ | apply y3_) <;> exact HB.out)); have n3_ := n2_; clear HB; have HB := n0_; have BK190 := n1_; have GW190 := n2_; have GE190 := n3_; clear n0_ n1_ n2_ n3_; clear hb hbox hg) | ((with_reducible refine gate_callee (f := 160) rfl ?_); refine goesL_ (some 5) rfl rfl Try.func160 (by kernel_rfl) rfl #[.string a0] rfl (by (try simp only [List.map_toArray, List.map_cons, List.map_nil]); first | done | rfl) ?_; (with_reducible refine (key_After.calls a0 t191 _ A2.out).mono ?_); rintro e w' ⟨rfl, ⟨nd, rfl⟩⟩; refine ⟨_, rfl, ?_⟩; (try (rw [drewN_self w3]; generalize hq_ : World.drewN w3 _ = w3; have n0_ : Aside0 (w3.heap[gb190]? = some (.cells #[.string ⟨#[]⟩, .string ⟨#[]⟩] 48 (0, 0))) := ⟨by rw [← hq_]; exact (by (with_reducible repeat first | apply z1_ | apply z2_ | apply z3_); exact BK190.out)⟩; have n1_ : Aside0 (Below w.heap.size w w3) := ⟨by rw [← hq_]; exact (by (with_reducible repeat first | exact HB.out | apply y1_ | apply y2_ | apply y3_ | refine y4_ ?_ GE190.out) <;> exact HB.out)⟩; clear BK190 HB hq_; have BK190 := n0_; have HB := n1_; clear n0_ n1_)); have hcz4_0 : w3.cell? ⟨gb190, 0, none⟩ = some (.string ⟨#[]⟩) := (b_ BK190 0); have hcz4_1 : w3.cell? ⟨gb190, 1, none⟩ = some (.string ⟨#[]⟩) := (b_ BK190 1); have hfz4_0 := blk_frozen BK190.out 0; have hfz4_1 := blk_frozen BK190.out 1))
 (refine bodyPost_ret (results_cell_row rfl _ _ gb190 48 #[.string a0, .string t191] (0, 0) _ rfl (by (with_reducible repeat first | apply z1_ | apply z2_ | apply z3_); refine blk_put (cs := #[.string a0, .string ⟨#[]⟩]) ?_ 1 _ rfl; (with_reducible repeat first | apply z1_ | apply z2_ | apply z3_); refine blk_put (cs := #[.string ⟨#[]⟩, .string ⟨#[]⟩]) ?_ 0 _ rfl; (with_reducible repeat first | apply z1_ | apply z2_ | apply z3_); exact BK190.out) Try.underlying48 rfl (by kernel_rfl)) rfl ?_); (exact ⟨by first | rfl | (simp [*, errW_none, errW_some] <;> rfl), by (with_reducible repeat first | exact HB.out | apply y1_ | apply y2_ | apply y3_ | refine y4_ ?_ GE190.out) <;> exact HB.out⟩)
/-! ### msg_Size: function 108 -/
def msg_Size.f (a0_0 : Int) (a0_1 : Int) (a0_2 : ByteArray) (a0_3 : ByteArray) (a0_4 : ByteArray) (a0_5 : Int) : Option (Int) := some (wrap64 ((wrap64 ((wrap64 (16 + (a0_2.size : Int))) + (a0_3.size : Int))) + (a0_4.size : Int)))
set_option maxHeartbeats 8000000 in
set_option maxRecDepth 100000 in
theorem msg_Size.calls (a0_0 : Int) (a0_1 : Int) (a0_2 : ByteArray) (a0_3 : ByteArray) (a0_4 : ByteArray) (a0_5 : Int) (r : Int) (w : World) (h : msg_Size.f a0_0 a0_1 a0_2 a0_3 a0_4 a0_5 = some r) :
  Calls Try.prog 108 #[.agg #[.int .u8 a0_0, .int .i64 a0_1, .string a0_2, .string a0_3, .string a0_4, .int .u64 a0_5]] w fun e w' => e = .returned (.int .i64 r) ∧ Below w.heap.size w w' := by
 (have hu46 := Try.underlying46); (have HB := Aside0.mk (Below.refl w.heap.size w)); (have H : (some (wrap64 ((wrap64 ((wrap64 (16 + (a0_2.size : Int))) + (a0_3.size : Int))) + (a0_4.size : Int)))) = some r := h); (clear h); (obtain rfl := Option.some.inj H); (go_enter Try.func108, Try.ntmps108)
 go_wp2_with (first | ((with_reducible refine gate_dst (N := 1) rfl ?_); refine box_event ?hg (N := 1) ?hd (cs := #[.int .u8 a0_0, .int .i64 a0_1, .string a0_2, .string a0_3, .string a0_4, .int .u64 a0_5]) (t := 46) ?hr ?_; (case hd => rfl); (case hg => rfl); (case hr => first | (go_simp; done) | (go_simp; rfl)); intro gb281 hg w2 hbox hb; have n0_ := Aside0.mk (below_step (by (with_reducible repeat first | exact HB.out | apply y1_ | apply y2_ | apply y3_) <;> exact HB.out) hb); have n1_ := Aside0.mk (hbox); have n2_ := Aside0.mk (hs_ hg (by (with_reducible repeat first | exact HB.out | apply y1_ | apply y2_ | apply y3_) <;> exact HB.out)); have n3_ := n2_; clear HB; have HB := n0_; have BK281 := n1_; have GW281 := n2_; have GE281 := n3_; clear n0_ n1_ n2_ n3_; clear hb hbox hg; have hcz3_0 : w2.cell? ⟨gb281, 0, none⟩ = some (.int .u8 a0_0) := (b_ BK281 0); have hcz3_1 : w2.cell? ⟨gb281, 1, none⟩ = some (.int .i64 a0_1) := (b_ BK281 1); have hcz3_2 : w2.cell? ⟨gb281, 2, none⟩ = some (.string a0_2) := (b_ BK281 2); have hcz3_3 : w2.cell? ⟨gb281, 3, none⟩ = some (.string a0_3) := (b_ BK281 3); have hcz3_4 : w2.cell? ⟨gb281, 4, none⟩ = some (.string a0_4) := (b_ BK281 4); have hcz3_5 : w2.cell? ⟨gb281, 5, none⟩ = some (.int .u64 a0_5) := (b_ BK281 5); have hfz3_0 := blk_frozen BK281.out 0; have hfz3_1 := blk_frozen BK281.out 1; have hfz3_2 := blk_frozen BK281.out 2; have hfz3_3 := blk_frozen BK281.out 3; have hfz3_4 := blk_frozen BK281.out 4; have hfz3_5 := blk_frozen BK281.out 5))
 (go_ret); (exact ⟨by first | rfl | (simp [*, errW_none, errW_some] <;> rfl), by (with_reducible repeat first | exact HB.out | apply y1_ | apply y2_ | apply y3_ | refine y4_ ?_ GE281.out) <;> exact HB.out⟩)
/-! ### api_Msg_89: function 89 -/
open Go.Proofs.YtnklnjghecmihaaW.Sl
theorem api_Msg_89.info : (Try.prog.info? 46).map (fun i => (i.zero, i.size, i.bytes)) = some (some (.agg #[(.int .u8 0), (.int .i64 0), (.string ⟨#[]⟩), (.string ⟨#[]⟩), (.string ⟨#[]⟩), (.int .u64 0)]), 6, 72) := by kernel_rfl
def api_Msg_89.total (ls : List (List S46)) : Nat := (ls.map List.length).sum
def api_Msg_89.f (ls : List (List S46)) : Option (List S46) := if api_Msg_89.total ls < 1000000 then some ls.flatten else none
set_option maxHeartbeats 4000000 in
set_option maxRecDepth 100000 in
theorem api_Msg_89.grow (n : Nat) (hn : n < 1000000) (w : World) :
  Calls Try.prog 129 #[.slice none 0 0, .int .i64 (n : Int)] w fun e w' => ∃ v : Value, e = .returned v ∧ Kd.R k46 46 w' w.heap.size (fun _ => True) v [] ∧ Below w.heap.size w w' := by
 by_cases h0 : n = 0
 ·subst h0
  go_enter Try.func129, Try.ntmps129
  go_wp2
  go_ret
  exact ⟨_, rfl, Kd.R_nil _ _ _ _ _, Below.refl _ _⟩
 ·obtain ⟨i0, hi, hz0, hz1, hz2⟩ := info_parts api_Msg_89.info
  have hrun := Lib.run_append_nil_zeros (P := Try.prog) w 36 3 36 46 i0 _ .i64 .i64 Try.underlying36 Try.underlying3 hi hz0 n (by omega) (by omega) (by omega) (by rw [hz2]; omega)
  have hcap := grownCap_ge w n 0 46
  have hcm := grownCap_le_maxLen w n 0 46 (by unfold maxLen; omega)
  have hsz : (Builtin.zeroCells ((.agg #[(.int .u8 0), (.int .i64 0), (.string ⟨#[]⟩), (.string ⟨#[]⟩), (.string ⟨#[]⟩), (.int .u64 0)]) : Value).cells n ++ Builtin.zeroCells ((.agg #[(.int .u8 0), (.int .i64 0), (.string ⟨#[]⟩), (.string ⟨#[]⟩), (.string ⟨#[]⟩), (.int .u64 0)]) : Value).cells (grownCap w n 0 46 - n)).size = grownCap w n 0 46 * 6 := by
   simp only [Array.size_append, size_zeroCells]
   simp [Value.cells]
   omega
  have HRUN := Aside0.mk hrun
  have HSZ := Aside0.mk hsz
  have HCM := Aside0.mk hcm
  generalize grownCap w n 0 46 = cap at *
  have hpos : (0 : Int) < (n : Int) := by omega
  have hpos' : decide ((0 : Int) < (n : Int)) = true := decide_eq_true hpos
  clear hrun hsz hcm hi hz0 hz1 hz2 h0
  go_enter Try.func129, Try.ntmps129
  go_wp2_with (at_builtin; refine Lib.wpList_append_run _ rfl _ _ _ _ rfl _ _ rfl rfl _ _ HRUN.out ?_)
  go_ret
  exact ⟨_, rfl, grown_nil k46 46 _ cap HCM.out HSZ.out, ((Below.refl _ w).drew).alloc (Nat.le_refl _) _⟩
theorem api_Msg_89.total_take (ls : List (List S46)) (k : Nat) (hk : k < ls.length) : api_Msg_89.total (ls.take (k + 1)) = api_Msg_89.total (ls.take k) + (ls.getD k []).length := by
 unfold api_Msg_89.total
 rw [List.take_add_one, List.getElem?_eq_getElem hk, List.map_append, List.sum_append, List.getD_eq_getElem?_getD, List.getElem?_eq_getElem hk]
 simp
theorem api_Msg_89.total_le (ls : List (List S46)) (k : Nat) : api_Msg_89.total (ls.take k) ≤ api_Msg_89.total ls := by
 have h := List.take_append_drop k ls
 have : api_Msg_89.total ls = api_Msg_89.total (ls.take k) + api_Msg_89.total (ls.drop k) := by
  unfold api_Msg_89.total
  rw [← List.sum_append, ← List.map_append, h]
 omega
theorem api_Msg_89.flat_len (ls : List (List S46)) : ls.flatten.length = api_Msg_89.total ls := by simp [api_Msg_89.total, List.length_flatten]
theorem api_Msg_89.flat_take (ls : List (List S46)) (k : Nat) (hk : k < ls.length) : (ls.take (k + 1)).flatten = (ls.take k).flatten ++ ls.getD k [] := by
 rw [List.take_add_one, List.getElem?_eq_getElem hk, List.flatten_append, List.getD_eq_getElem?_getD, List.getElem?_eq_getElem hk]
 simp
set_option maxHeartbeats 8000000 in
set_option maxRecDepth 100000 in
theorem api_Msg_89.calls (A0 : Option Addr) (c0 : Nat) (l0 : List (List S46)) (r : List S46) (w : World) (hr0 : Kd.C (Kd.slice 46 k46) w A0 l0.length l0) (hc0 : l0.length ≤ c0) (h : api_Msg_89.f l0 = some r) :
  Calls Try.prog 89 #[.slice A0 l0.length c0] w fun e w' => ∃ v0_ : Value, e = .returned (v0_) ∧ Kd.R k46 46 w' w.heap.size (fun _ => True) v0_ r ∧ Below w.heap.size w w' := by
 have hT : api_Msg_89.total l0 < 1000000 := by
  unfold api_Msg_89.f at h
  split at h
  ·assumption
  ·exact absurd h (by simp)
 unfold api_Msg_89.f at h
 rw [if_pos hT] at h
 obtain rfl := Option.some.inj h
 have hn0 : l0.length ≤ 9223372036854775807 := hr0.2.1
 have HT := Aside0.mk hT
 have HR0 := Aside0.mk hr0
 clear h hT hr0
 go_enter Try.func89, Try.ntmps89
 go_wp2
 go_loop [3, 11] (fun s i => ∃ k : Nat, k ≤ l0.length ∧ i = .int .i64 (k : Int) ∧ s = .int .i64 (api_Msg_89.total (l0.take k) : Int)) (fun _ i => l0.length - (intOf i).toNat)
 case atStart => exact ⟨0, Nat.zero_le _, rfl, rfl⟩
 case round =>
  obtain ⟨k, hk, rfl, rfl⟩ := hrel
  have hle := api_Msg_89.total_le l0 k
  have hle1 := api_Msg_89.total_le l0 (k + 1)
  have hT := HT.out
  by_cases hlt : k < l0.length
  ·obtain ⟨ad, A', c', rfl, hcell, hlc, _⟩ := C_row HR0.out k hlt
   have hs := api_Msg_89.total_take l0 k hlt
   have HS := Aside0.mk hs
   have b1 : 0 ≤ (api_Msg_89.total (l0.take k) : Int) := by omega
   have b2 : (api_Msg_89.total (l0.take k) : Int) ≤ 1000000 := by omega
   have b3 : ((l0.getD k []).length : Int) ≤ 1000000 := by omega
   have b4 : ¬ ((api_Msg_89.total (l0.take k) : Int) + ((l0.getD k []).length : Int) < 0) := by omega
   generalize api_Msg_89.total (l0.take k) = u at *
   generalize (l0.getD k []).length = v at *
   clear hs hle hle1 hT
   go_wp2
   go_round
   case rel => exact ⟨k + 1, by omega, by go_num, by rw [HS.out]; go_num⟩
   case measure => simp [intOf]; omega
  ·obtain rfl : k = l0.length := by omega
   rw [List.take_length] at *
   have b1 : 0 ≤ (api_Msg_89.total l0 : Int) := by omega
   clear hle hle1 hT
   go_wp2_with (go_at_call 129; refine (api_Msg_89.grow (api_Msg_89.total l0) HT.out _).mono ?_; rintro e w1 ⟨v, rfl, hR, hB⟩)
   have HB := Aside0.mk hB
   have HR := Aside0.mk hR
   clear hB hR
   go_loopw [6, 27] (fun s i wr => ∃ k : Nat, k ≤ l0.length ∧ i = .int .i64 (k : Int) ∧ Aside0 (Kd.R k46 46 wr w.heap.size (fun _ => True) s (l0.take k).flatten) ∧ Aside0 (Below w.heap.size w wr)) (fun _ i _ => l0.length - (intOf i).toNat)
   case atStart => exact ⟨0, Nat.zero_le _, rfl, HR, HB⟩
   case round =>
    obtain ⟨k, hk, rfl, HR, HB⟩ := hrel
    by_cases hlt : k < l0.length
    ·obtain ⟨ad, A', c', hA, hcell, hlc, hC⟩ := C_row (Kd.C_below HR0.out HB.out) k hlt
     subst hA
     have hf := api_Msg_89.flat_take l0 k hlt
     have e := api_Msg_89.flat_len (l0.take (k + 1))
     have h1 := api_Msg_89.total_le l0 (k + 1)
     have hR6 := HR.out
     clear HR
     generalize l0.getD k [] = row at *
     generalize (l0.take k).flatten = acc at *
     rw [hf, List.length_append] at e
     have hlen : (acc.length + row.length) * 72 ≤ 140737488355328 := by
      have := HT.out
      omega
     have HC := Aside0.mk hC
     have HF := Aside0.mk hf
     have HL := Aside0.mk hlen
     obtain ⟨A6, c6, rfl⟩ := Kd.R_slice hR6
     have HR := Aside0.mk hR6
     clear hf hlen hC e h1 hR6
     go_wp2_with (at_builtin; refine Kd.R_append_rows k46 (Rr := k46.K wr) w.heap.size rfl _ _ 36 46 _ 72 rfl Try.underlying36 api_Msg_89.info rfl (by decide) (by decide) _ acc row _ _ _ (fun _ => True) (fun _ => False) rfl rfl HR.out HC.out (fun _ _ h => h) (fun _ h => h.elim) (fun _ _ => trivial) HB.out HB.out.size HL.out ?_; intro v1 w1 hR1 hB1 _ _; have HR1 := Aside0.mk hR1; have HB1 := Aside0.mk hB1; clear hR1 hB1)
     go_roundw
     case rel => exact ⟨k + 1, by omega, by go_num, by rw [HF.out]; exact HR1, HB1⟩
     case measure => simp [intOf]; omega
    ·obtain rfl : k = l0.length := by omega
     rw [List.take_length] at HR
     go_wp2
     go_ret
     exact ⟨_, rfl, HR.out, HB.out⟩
/-! ### key_Holds: function 134 -/
def key_Holds.f (a0_0 : ByteArray) (a0_1 : ByteArray) (a1 : ByteArray) : Option (Bool) := if ((Op.bytesLess a1.toList a0_0.toList) = true) then (some false) else ((key_ahead.f a1 a0_1).bind fun t198 => (some t198))
set_option maxHeartbeats 8000000 in
set_option maxRecDepth 100000 in
theorem key_Holds.calls (a0_0 : ByteArray) (a0_1 : ByteArray) (a1 : ByteArray) (r : Bool) (w : World) (h : key_Holds.f a0_0 a0_1 a1 = some r) :
  Calls Try.prog 134 #[.agg #[.string a0_0, .string a0_1], .string a1] w fun e w' => e = .returned (.bool r) ∧ Below w.heap.size w w' := by
 (have hu48 := Try.underlying48); (have HB := Aside0.mk (Below.refl w.heap.size w)); (have H : (if ((Op.bytesLess a1.toList a0_0.toList) = true) then (some false) else ((key_ahead.f a1 a0_1).bind fun t198 => (some t198))) = some r := h); (clear h); (by_cases c3 : ((Op.bytesLess a1.toList a0_0.toList) = true))
 ·rw [if_pos c3] at H
  (have c3b0 : (Op.bytesLess a1.toList a0_0.toList) = true := c3); (clear c3); (obtain rfl := Option.some.inj H); (go_enter Try.func134, Try.ntmps134)
  go_wp2_with (first | ((with_reducible refine gate_dst (N := 2) rfl ?_); refine box_event ?hg (N := 2) ?hd (cs := #[.string a0_0, .string a0_1]) (t := 48) ?hr ?_; (case hd => rfl); (case hg => rfl); (case hr => first | (go_simp; done) | (go_simp; rfl)); intro gb197 hg w4 hbox hb; have n0_ := Aside0.mk (below_step (by (with_reducible repeat first | exact HB.out | apply y1_ | apply y2_ | apply y3_) <;> exact HB.out) hb); have n1_ := Aside0.mk (hbox); have n2_ := Aside0.mk (hs_ hg (by (with_reducible repeat first | exact HB.out | apply y1_ | apply y2_ | apply y3_) <;> exact HB.out)); have n3_ := n2_; clear HB; have HB := n0_; have BK197 := n1_; have GW197 := n2_; have GE197 := n3_; clear n0_ n1_ n2_ n3_; clear hb hbox hg; have hcz5_0 : w4.cell? ⟨gb197, 0, none⟩ = some (.string a0_0) := (b_ BK197 0); have hcz5_1 : w4.cell? ⟨gb197, 1, none⟩ = some (.string a0_1) := (b_ BK197 1); have hfz5_0 := blk_frozen BK197.out 0; have hfz5_1 := blk_frozen BK197.out 1))
  (go_ret); (exact ⟨by first | rfl | (simp [*, errW_none, errW_some] <;> rfl), by (with_reducible repeat first | exact HB.out | apply y1_ | apply y2_ | apply y3_ | refine y4_ ?_ GE197.out) <;> exact HB.out⟩)
 ·rw [if_neg c3] at H
  (have c3b0 : (Op.bytesLess a1.toList a0_0.toList) = false := by simpa using c3); (clear c3); (replace H := Option.bind_eq_some_iff.mp H); (obtain ⟨t198, A60, H⟩ := H); (replace H : (some t198) = some r := H); (have A6 := Aside0.mk A60); (clear A60); (obtain rfl := Option.some.inj H); (go_enter Try.func134, Try.ntmps134)
  go_wp2_with (first | ((with_reducible refine gate_dst (N := 2) rfl ?_); refine box_event ?hg (N := 2) ?hd (cs := #[.string a0_0, .string a0_1]) (t := 48) ?hr ?_; (case hd => rfl); (case hg => rfl); (case hr => first | (go_simp; done) | (go_simp; rfl)); intro gb197 hg w7 hbox hb; have n0_ := Aside0.mk (below_step (by (with_reducible repeat first | exact HB.out | apply y1_ | apply y2_ | apply y3_) <;> exact HB.out) hb); have n1_ := Aside0.mk (hbox); have n2_ := Aside0.mk (hs_ hg (by (with_reducible repeat first | exact HB.out | apply y1_ | apply y2_ | apply y3_) <;> exact HB.out)); have n3_ := n2_; clear HB; have HB := n0_; have BK197 := n1_; have GW197 := n2_; have GE197 := n3_; clear n0_ n1_ n2_ n3_; clear hb hbox hg; have hcz8_0 : w7.cell? ⟨gb197, 0, none⟩ = some (.string a0_0) := (b_ BK197 0); have hcz8_1 : w7.cell? ⟨gb197, 1, none⟩ = some (.string a0_1) := (b_ BK197 1); have hfz8_0 := blk_frozen BK197.out 0; have hfz8_1 := blk_frozen BK197.out 1) | (go_at_call 137; (with_reducible refine (key_ahead.calls a1 a0_1 t198 _ A6.out).mono ?_); rintro e w' ⟨rfl, ⟨nd, rfl⟩⟩))
  (go_ret); (exact ⟨by first | rfl | (simp [*, errW_none, errW_some] <;> rfl), by (with_reducible repeat first | exact HB.out | apply y1_ | apply y2_ | apply y3_ | refine y4_ ?_ GE197.out) <;> exact HB.out⟩)
/-! ### key_Before: function 136 -/
def key_Before.f (a0 : ByteArray) (a1 : ByteArray) : Option (Bool) := if a0.toList = ([] : List UInt8) then (some false) else (if a1.toList = ([] : List UInt8) then (some (a1.toList == ([] : List UInt8))) else (some (Op.bytesLess a0.toList a1.toList)))
set_option maxHeartbeats 8000000 in
set_option maxRecDepth 100000 in
theorem key_Before.calls (a0 : ByteArray) (a1 : ByteArray) (r : Bool) (w : World) (h : key_Before.f a0 a1 = some r) :
  Calls Try.prog 136 #[.string a0, .string a1] w fun e w' => e = .returned (.bool r) ∧ Drawn0 w w' := by
 (have H : (if a0.toList = ([] : List UInt8) then (some false) else (if a1.toList = ([] : List UInt8) then (some (a1.toList == ([] : List UInt8))) else (some (Op.bytesLess a0.toList a1.toList)))) = some r := h); (clear h); (by_cases c3 : a0.toList = ([] : List UInt8))
 ·rw [if_pos c3] at H
  (have c3b0 : (a0.toList == ([] : List UInt8)) = true := beq_iff_eq.mpr c3); (have c3b1 : (a0.toList != ([] : List UInt8)) = false := bne_eq_false_iff_eq.mpr c3); (clear c3); (obtain rfl := Option.some.inj H); (go_enter Try.func136, Try.ntmps136); (go_wp2); (go_ret); (exact ⟨by first | rfl | (simp; done) | (simp [*]; done), by repeat (first | exact Drawn0.refl _ | apply Drawn0.step)⟩)
 ·rw [if_neg c3] at H
  (have c3b0 : (a0.toList == ([] : List UInt8)) = false := beq_eq_false_iff_ne.mpr c3); (have c3b1 : (a0.toList != ([] : List UInt8)) = true := bne_iff_ne.mpr c3); (by_cases c4 : a1.toList = ([] : List UInt8))
  ·rw [if_pos c4] at H
   (have c4b0 : (a1.toList == ([] : List UInt8)) = true := beq_iff_eq.mpr c4); (have c4b1 : (a1.toList != ([] : List UInt8)) = false := bne_eq_false_iff_eq.mpr c4); (clear c4); (obtain rfl := Option.some.inj H); (go_enter Try.func136, Try.ntmps136); (go_wp2); (go_ret); (exact ⟨by first | rfl | (simp; done) | (simp [*]; done), by repeat (first | exact Drawn0.refl _ | apply Drawn0.step)⟩)
  ·rw [if_neg c4] at H
   (have c4b0 : (a1.toList == ([] : List UInt8)) = false := beq_eq_false_iff_ne.mpr c4); (have c4b1 : (a1.toList != ([] : List UInt8)) = true := bne_iff_ne.mpr c4); (obtain rfl := Option.some.inj H); (go_enter Try.func136, Try.ntmps136); (go_wp2); (go_ret); (exact ⟨by first | rfl | (simp; done) | (simp [*]; done), by repeat (first | exact Drawn0.refl _ | apply Drawn0.step)⟩)
/-! ### key_First: function 159 -/
def key_First.f (a0 : ByteArray) (a1 : ByteArray) : Option (ByteArray) := (key_Before.f a1 a0).bind fun t199 => (if t199 = true then (some a1) else (some a0))
set_option maxHeartbeats 8000000 in
set_option maxRecDepth 100000 in
theorem key_First.calls (a0 : ByteArray) (a1 : ByteArray) (r : ByteArray) (w : World) (h : key_First.f a0 a1 = some r) :
  Calls Try.prog 159 #[.string a0, .string a1] w fun e w' => e = .returned (.string r) ∧ Drawn0 w w' := by
 (have H : ((key_Before.f a1 a0).bind fun t199 => (if t199 = true then (some a1) else (some a0))) = some r := h); (clear h); (replace H := Option.bind_eq_some_iff.mp H); (obtain ⟨t199, A30, H⟩ := H); (replace H : (if t199 = true then (some a1) else (some a0)) = some r := H); (have A3 := Aside0.mk A30); (clear A30); (by_cases c4 : t199 = true)
 ·subst c4
  (have H1 : (some a1) = some r := by rw [if_pos rfl] at H; exact H); (clear H); (have H := H1); (clear H1); (obtain rfl := Option.some.inj H); (go_enter Try.func159, Try.ntmps159); (go_wp2_with (first | ((with_reducible refine gate_callee (f := 136) rfl ?_); refine goesL_ (some 7) rfl rfl Try.func136 (by kernel_rfl) rfl #[.string a1, .string a0] rfl (by (try simp only [List.map_toArray, List.map_cons, List.map_nil]); first | done | rfl) ?_; (with_reducible refine (key_Before.calls a1 a0 true _ A3.out).mono ?_); rintro e w' ⟨rfl, ⟨nd, rfl⟩⟩; refine ⟨_, rfl, ?_⟩))); (go_ret); (exact ⟨by first | rfl | (simp; done) | (simp [*]; done), by repeat (first | exact Drawn0.refl _ | apply Drawn0.step)⟩)
 ·replace c4 := Bool.eq_false_iff.mpr c4
  (subst c4); (have H1 : (some a0) = some r := by rw [if_neg (show ¬ (false = true) by decide)] at H; exact H); (clear H); (have H := H1); (clear H1); (obtain rfl := Option.some.inj H); (go_enter Try.func159, Try.ntmps159); (go_wp2_with (first | ((with_reducible refine gate_callee (f := 136) rfl ?_); refine goesL_ (some 7) rfl rfl Try.func136 (by kernel_rfl) rfl #[.string a1, .string a0] rfl (by (try simp only [List.map_toArray, List.map_cons, List.map_nil]); first | done | rfl) ?_; (with_reducible refine (key_Before.calls a1 a0 false _ A3.out).mono ?_); rintro e w' ⟨rfl, ⟨nd, rfl⟩⟩; refine ⟨_, rfl, ?_⟩))); (go_ret); (exact ⟨by first | rfl | (simp; done) | (simp [*]; done), by repeat (first | exact Drawn0.refl _ | apply Drawn0.step)⟩)
theorem eqA46 (d : Nat) (w : World) (x0 y0 : Int) (x1 y1 : Int) (x2 y2 : ByteArray) (x3 y3 : ByteArray) (x4 y4 : ByteArray) (x5 y5 : Int) :
  (Op.equalIn (d + 2) 46 (.agg #[.int .u8 x0, .int .i64 x1, .string x2, .string x3, .string x4, .int .u64 x5]) (.agg #[.int .u8 y0, .int .i64 y1, .string y2, .string y3, .string y4, .int .u64 y5])).run Try.prog w = .ok (x0 == y0 && (x1 == y1 && (x2.toList == y2.toList && (x3.toList == y3.toList && (x4.toList == y4.toList && (x5 == y5)))))) w := by
 refine eqA_of Try.underlying46 (by kernel_rfl) ?_
 refine eqf_cons (by rfl) (by go_simp; rfl) (by go_simp; rfl) (by go_simp) ?_
 refine eqf_cons (by rfl) (by go_simp; rfl) (by go_simp; rfl) (by go_simp) ?_
 refine eqf_cons (by rfl) (by go_simp; rfl) (by go_simp; rfl) (by go_simp) ?_
 refine eqf_cons (by rfl) (by go_simp; rfl) (by go_simp; rfl) (by go_simp) ?_
 refine eqf_cons (by rfl) (by go_simp; rfl) (by go_simp; rfl) (by go_simp) ?_
 exact eqf_last (by rfl) (by go_simp; rfl) (by go_simp; rfl) (by go_simp)
/-! ### catchmentref04_Size: function 109 -/
def catchmentref04_Size.f (a0_0 : Int) (a0_1 : Int) (a0_2 : ByteArray) (a0_3 : ByteArray) (a0_4 : ByteArray) (a0_5 : Int) : Option (Int) := some (wrap64 ((wrap64 ((wrap64 (16 + (a0_2.size : Int))) + (a0_3.size : Int))) + (a0_4.size : Int)))
set_option maxHeartbeats 8000000 in
set_option maxRecDepth 100000 in
theorem catchmentref04_Size.calls (a0_0 : Int) (a0_1 : Int) (a0_2 : ByteArray) (a0_3 : ByteArray) (a0_4 : ByteArray) (a0_5 : Int) (r : Int) (w : World) (h : catchmentref04_Size.f a0_0 a0_1 a0_2 a0_3 a0_4 a0_5 = some r) :
  Calls Try.prog 109 #[.agg #[.int .u8 a0_0, .int .i64 a0_1, .string a0_2, .string a0_3, .string a0_4, .int .u64 a0_5]] w fun e w' => e = .returned (.int .i64 r) ∧ Below w.heap.size w w' := by
 (have hu46 := Try.underlying46); (have HB := Aside0.mk (Below.refl w.heap.size w)); (have H : (some (wrap64 ((wrap64 ((wrap64 (16 + (a0_2.size : Int))) + (a0_3.size : Int))) + (a0_4.size : Int)))) = some r := h); (clear h); (obtain rfl := Option.some.inj H); (go_enter Try.func109, Try.ntmps109)
 go_wp2_with (first | ((with_reducible refine gate_dst (N := 1) rfl ?_); refine box_event ?hg (N := 1) ?hd (cs := #[.int .u8 a0_0, .int .i64 a0_1, .string a0_2, .string a0_3, .string a0_4, .int .u64 a0_5]) (t := 46) ?hr ?_; (case hd => rfl); (case hg => rfl); (case hr => first | (go_simp; done) | (go_simp; rfl)); intro gb344 hg w2 hbox hb; have n0_ := Aside0.mk (below_step (by (with_reducible repeat first | exact HB.out | apply y1_ | apply y2_ | apply y3_) <;> exact HB.out) hb); have n1_ := Aside0.mk (hbox); have n2_ := Aside0.mk (hs_ hg (by (with_reducible repeat first | exact HB.out | apply y1_ | apply y2_ | apply y3_) <;> exact HB.out)); have n3_ := n2_; clear HB; have HB := n0_; have BK344 := n1_; have GW344 := n2_; have GE344 := n3_; clear n0_ n1_ n2_ n3_; clear hb hbox hg; have hcz3_0 : w2.cell? ⟨gb344, 0, none⟩ = some (.int .u8 a0_0) := (b_ BK344 0); have hcz3_1 : w2.cell? ⟨gb344, 1, none⟩ = some (.int .i64 a0_1) := (b_ BK344 1); have hcz3_2 : w2.cell? ⟨gb344, 2, none⟩ = some (.string a0_2) := (b_ BK344 2); have hcz3_3 : w2.cell? ⟨gb344, 3, none⟩ = some (.string a0_3) := (b_ BK344 3); have hcz3_4 : w2.cell? ⟨gb344, 4, none⟩ = some (.string a0_4) := (b_ BK344 4); have hcz3_5 : w2.cell? ⟨gb344, 5, none⟩ = some (.int .u64 a0_5) := (b_ BK344 5); have hfz3_0 := blk_frozen BK344.out 0; have hfz3_1 := blk_frozen BK344.out 1; have hfz3_2 := blk_frozen BK344.out 2; have hfz3_3 := blk_frozen BK344.out 3; have hfz3_4 := blk_frozen BK344.out 4; have hfz3_5 := blk_frozen BK344.out 5))
 (go_ret); (exact ⟨by first | rfl | (simp [*, errW_none, errW_some] <;> rfl), by (with_reducible repeat first | exact HB.out | apply y1_ | apply y2_ | apply y3_ | refine y4_ ?_ GE344.out) <;> exact HB.out⟩)
/-! ### catchmentref12_Bytes: function 55 -/
def catchmentref12_Bytes.l0 : Nat → List (S46) → Int → Int → Option (Int)
 | 0, _, _, _ => none
 | k + 1, x0, x3, x4 => if x4 < (x0.length : Int) then (if 0 ≤ x4 then ((catchmentref04_Size.f ((rd_T46 x0 x4).f0) ((rd_T46 x0 x4).f1) ((rd_T46 x0 x4).f2) ((rd_T46 x0 x4).f3) ((rd_T46 x0 x4).f4) ((rd_T46 x0 x4).f5)).bind fun t346 => (catchmentref12_Bytes.l0 k x0 (wrap64 (x3 + t346)) (wrap64 (x4 + 1)))) else (none)) else (some x3)
def catchmentref12_Bytes.f (k : Nat) (l0 : List (S46)) : Option (Int) := catchmentref12_Bytes.l0 k l0 0 0
theorem catchmentref12_Bytes.mono_l : ∀ k, (∀ y0 y1 y2, LeO (catchmentref12_Bytes.l0 k y0 y1 y2) (catchmentref12_Bytes.l0 (k + 1) y0 y1 y2))
 | 0 => fun _ _ _ r h => by simp [catchmentref12_Bytes.l0] at h
 | k + 1 => by
  have ih0 := catchmentref12_Bytes.mono_l k
  ·intro y0 y1 y2
   unfold catchmentref12_Bytes.l0
   repeat' (with_reducible first | exact ih0 _ _ _ | exact LeO.refl _ | exact LeO.none _ | refine LeO.ite ?_ ?_ | refine LeO.bind ?_ (fun _ => ?_))
theorem catchmentref12_Bytes.mono : ∀ a0 k, LeO (catchmentref12_Bytes.f k a0) (catchmentref12_Bytes.f (k + 1) a0) := by
 (intro a0 k); (have ih0 := catchmentref12_Bytes.mono_l k); (unfold catchmentref12_Bytes.f)
 repeat' (with_reducible first | exact ih0 _ _ _ | exact LeO.refl _ | exact LeO.none _ | refine LeO.ite ?_ ?_ | refine LeO.bind ?_ (fun _ => ?_))
set_option maxHeartbeats 8000000 in
set_option maxRecDepth 100000 in
theorem catchmentref12_Bytes.calls (k : Nat) (A0 : Option Addr) (c0 : Nat) (l0 : List (S46)) (r : Int) (w : World) (hr0 : Kd.C k46 w A0 l0.length l0) (hc0 : l0.length ≤ c0) (h : catchmentref12_Bytes.f k l0 = some r) :
  Calls Try.prog 55 #[.slice A0 l0.length c0] w fun e w' => e = .returned (.int .i64 r) ∧ Below w.heap.size w w' := by
 (have hu46 := Try.underlying46); (have HR0 := Aside0.mk hr0); (have HC0 := Aside0.mk hc0); (clear hr0 hc0); (have HB := Aside0.mk (Below.refl w.heap.size w)); (have H : (catchmentref12_Bytes.l0 k l0 0 0) = some r := h); (clear h); (have H' := Aside0.mk H); (clear H); (go_enter Try.func55, Try.ntmps55); (go_wp2); (go_loopg [3, 4] k (fun kq v3 v4 w' => ∃ (x3_1 : Int) (x4_1 : Int), v3 = .int .i64 x3_1 ∧ v4 = .int .i64 x4_1 ∧ Aside0 (catchmentref12_Bytes.l0 kq l0 x3_1 x4_1 = some r) ∧ Aside0 (kq ≤ k) ∧ Aside0 (Below w.heap.size w w')))
 case atStart => exact ⟨(0), (0), (by first | rfl | (simp; done) | (simp [*]; done)), (by first | rfl | (simp; done) | (simp [*]; done)), H', ⟨Nat.le_refl _⟩, ⟨by (with_reducible repeat first | exact HB.out | apply y1_ | apply y2_ | apply y3_) <;> exact HB.out⟩⟩
 case round =>
  (clear H'); (obtain ⟨x3_1, x4_1, rfl, rfl, HA, HK1, HB⟩ := hrel)
  cases gk with
  | zero => exact absurd HA.out (by simp [catchmentref12_Bytes.l0])
  | succ k1 =>
   (have H := HA.out); (clear HA); (simp only [catchmentref12_Bytes.l0] at H); (by_cases c2 : x4_1 < (l0.length : Int))
   ·rw [if_pos c2] at H
    (have c2b0 : decide (x4_1 < (l0.length : Int)) = true := decide_eq_true c2); (clear c2); (by_cases c3 : 0 ≤ x4_1)
    ·rw [if_pos c3] at H
     (have c3b0 : decide (0 ≤ x4_1) = true := decide_eq_true c3); (clear c3); (replace H := Option.bind_eq_some_iff.mp H); (obtain ⟨t346, A40, H⟩ := H); (replace H : (catchmentref12_Bytes.l0 k1 l0 (wrap64 (x3_1 + t346)) (wrap64 (x4_1 + 1))) = some r := H); (have A4 := Aside0.mk A40); (clear A40); (have H' := Aside0.mk H); (clear H); (have p345 : 0 ≤ (x4_1 : Int) := of_decide_eq_true (by first | (with_reducible assumption) | assumption)); (have q345 : x4_1 < (l0.length : Int) := of_decide_eq_true (by first | (with_reducible assumption) | assumption)); (obtain ⟨ad345, e345, hx345_0, hx345_1, hx345_2, hx345_3, hx345_4, hx345_5⟩ := at_T46 HR0.out x4_1 p345 q345); (cases e345); (replace hx345_0 := c1_ HB hx345_0); (replace hx345_1 := c1_ HB hx345_1); (replace hx345_2 := c1_ HB hx345_2); (replace hx345_3 := c1_ HB hx345_3); (replace hx345_4 := c1_ HB hx345_4)
     (replace hx345_5 := c1_ HB hx345_5); (replace p345 := eq_true p345); (replace q345 := eq_true q345); (go_wp2_with (first | ((with_reducible refine gate_callee (f := 109) rfl ?_); refine goesL_ (some 16) rfl rfl Try.func109 (by kernel_rfl) rfl #[.agg #[.int .u8 ((rd_T46 l0 x4_1).f0), .int .i64 ((rd_T46 l0 x4_1).f1), .string ((rd_T46 l0 x4_1).f2), .string ((rd_T46 l0 x4_1).f3), .string ((rd_T46 l0 x4_1).f4), .int .u64 ((rd_T46 l0 x4_1).f5)]] rfl (by (try simp only [List.map_toArray, List.map_cons, List.map_nil]); first | done | rfl) ?_; (with_reducible refine (catchmentref04_Size.calls ((rd_T46 l0 x4_1).f0) ((rd_T46 l0 x4_1).f1) ((rd_T46 l0 x4_1).f2) ((rd_T46 l0 x4_1).f3) ((rd_T46 l0 x4_1).f4) ((rd_T46 l0 x4_1).f5) t346 _ A4.out).mono ?_); rintro e w5 ⟨rfl, hb⟩; refine ⟨_, rfl, ?_⟩; have n0_ := Aside0.mk (below_step (by (with_reducible repeat first | exact HB.out | apply y1_ | apply y2_ | apply y3_) <;> exact HB.out) hb); clear HB; have HB := n0_; clear n0_; (try clear hb); (try clear hb2); (try clear hk); (try clear hi)))); (go_roundg k1)
     case measure => have := HK1.out; omega
     case rel => exact ⟨(wrap64 (x3_1 + t346)), (wrap64 (x4_1 + 1)), (by first | rfl | (simp; done) | (simp [*]; done)), (by first | rfl | (simp; done) | (simp [*]; done)), H', ⟨by have := HK1.out; omega⟩, ⟨by (with_reducible repeat first | exact HB.out | apply y1_ | apply y2_ | apply y3_) <;> exact HB.out⟩⟩
    ·rw [if_neg c3] at H
     exact absurd H (by simp)
   ·rw [if_neg c2] at H
    (have c2b0 : decide (x4_1 < (l0.length : Int)) = false := decide_eq_false c2); (clear c2); (obtain rfl := Option.some.inj H); (go_wp2); (go_ret); (exact ⟨by first | rfl | (simp [*, errW_none, errW_some] <;> rfl), by (with_reducible repeat first | exact HB.out | apply y1_ | apply y2_ | apply y3_) <;> exact HB.out⟩)
theorem eqA48 (d : Nat) (w : World) (x0 y0 : ByteArray) (x1 y1 : ByteArray) :
  (Op.equalIn (d + 2) 48 (.agg #[.string x0, .string x1]) (.agg #[.string y0, .string y1])).run Try.prog w = .ok (x0.toList == y0.toList && (x1.toList == y1.toList)) w := by
 refine eqA_of Try.underlying48 (by kernel_rfl) ?_
 refine eqf_cons (by rfl) (by go_simp; rfl) (by go_simp; rfl) (by go_simp) ?_
 exact eqf_last (by rfl) (by go_simp; rfl) (by go_simp; rfl) (by go_simp)
/-! ### catchmentref02_Before: function 128 -/
def catchmentref02_Before.f (a0 : ByteArray) (a1 : ByteArray) : Option (Bool) := if a0.toList = ([] : List UInt8) then (some false) else (if a1.toList = ([] : List UInt8) then (some true) else (some (Op.bytesLess a0.toList a1.toList)))
set_option maxHeartbeats 8000000 in
set_option maxRecDepth 100000 in
theorem catchmentref02_Before.calls (a0 : ByteArray) (a1 : ByteArray) (r : Bool) (w : World) (h : catchmentref02_Before.f a0 a1 = some r) :
  Calls Try.prog 128 #[.string a0, .string a1] w fun e w' => e = .returned (.bool r) ∧ Drawn0 w w' := by
 (have H : (if a0.toList = ([] : List UInt8) then (some false) else (if a1.toList = ([] : List UInt8) then (some true) else (some (Op.bytesLess a0.toList a1.toList)))) = some r := h); (clear h); (by_cases c3 : a0.toList = ([] : List UInt8))
 ·rw [if_pos c3] at H
  (have c3b0 : (a0.toList == ([] : List UInt8)) = true := beq_iff_eq.mpr c3); (have c3b1 : (a0.toList != ([] : List UInt8)) = false := bne_eq_false_iff_eq.mpr c3); (clear c3); (obtain rfl := Option.some.inj H); (go_enter Try.func128, Try.ntmps128); (go_wp2); (go_ret); (exact ⟨by first | rfl | (simp; done) | (simp [*]; done), by repeat (first | exact Drawn0.refl _ | apply Drawn0.step)⟩)
 ·rw [if_neg c3] at H
  (have c3b0 : (a0.toList == ([] : List UInt8)) = false := beq_eq_false_iff_ne.mpr c3); (have c3b1 : (a0.toList != ([] : List UInt8)) = true := bne_iff_ne.mpr c3); (by_cases c4 : a1.toList = ([] : List UInt8))
  ·rw [if_pos c4] at H
   (have c4b0 : (a1.toList == ([] : List UInt8)) = true := beq_iff_eq.mpr c4); (have c4b1 : (a1.toList != ([] : List UInt8)) = false := bne_eq_false_iff_eq.mpr c4); (clear c4); (obtain rfl := Option.some.inj H); (go_enter Try.func128, Try.ntmps128); (go_wp2); (go_ret); (exact ⟨by first | rfl | (simp; done) | (simp [*]; done), by repeat (first | exact Drawn0.refl _ | apply Drawn0.step)⟩)
  ·rw [if_neg c4] at H
   (have c4b0 : (a1.toList == ([] : List UInt8)) = false := beq_eq_false_iff_ne.mpr c4); (have c4b1 : (a1.toList != ([] : List UInt8)) = true := bne_iff_ne.mpr c4); (obtain rfl := Option.some.inj H); (go_enter Try.func128, Try.ntmps128); (go_wp2); (go_ret); (exact ⟨by first | rfl | (simp; done) | (simp [*]; done), by repeat (first | exact Drawn0.refl _ | apply Drawn0.step)⟩)
end Go.Proofs.Ytnklnjghecmihaa.L1

