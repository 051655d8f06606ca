/- tight -/ -- written by wip/myprint.py and wip/pack.py
import Derived.Test.YtnklnjghecmihaaL2x0
namespace Go.Proofs.Ytnklnjghecmihaa.L2
open Go.RowKit Go.Proofs.YtnklnjghecmihaaW PrintWords PrintLast PrintMore Mine
attribute [local go_sem] max2_int min2_int max_two min_two max_three min_three max_four min_four max2_str min2_str binOp_gtr_str binOp_leq_str binOp_geq_str
set_option linter.unusedVariables false
set_option linter.unusedSimpArgs false
theorem q4_0 {P : Prop} (h : P := by (with_reducible repeat first | exact HB.out | apply y1_ | apply y2_ | apply y3_) <;> exact HB.out) : P := h
theorem q4_1 {P : Prop} (h : P := by (with_reducible repeat first | exact HB.out | apply y1_ | apply y2_ | apply y3_ | refine y4_ ?_ GE106.out) <;> exact HB.out) : P := h
/-! ### catchmentref02_Right: function 52 -/
def catchmentref02_Right.f (a0_0 : ByteArray) (a0_1 : ByteArray) : Option (Bool) := if a0_1.toList = ([] : List UInt8) then (some true) else (some (Op.bytesLess a0_0.toList a0_1.toList))
set_option maxHeartbeats 8000000 in
set_option maxRecDepth 100000 in
theorem catchmentref02_Right.calls (a0_0 : ByteArray) (a0_1 : ByteArray) (r : Bool) (w : World) (h : catchmentref02_Right.f a0_0 a0_1 = some r) :
  Calls Try.prog 52 #[.agg #[.string a0_0, .string a0_1]] w fun e w' => e = .returned (.bool r) ∧ Below w.heap.size w w' := by
 (have hu48 := Try.underlying48); (have HB := Aside0.mk (Below.refl w.heap.size w)); (have H : (if a0_1.toList = ([] : List UInt8) then (some true) else (some (Op.bytesLess a0_0.toList a0_1.toList))) = some r := h); (clear h); (by_cases c2 : a0_1.toList = ([] : List UInt8))
 ·rw [if_pos c2] at H
  (have c2b0 : (a0_1.toList == ([] : List UInt8)) = true := beq_iff_eq.mpr c2); (have c2b1 : (a0_1.toList != ([] : List UInt8)) = false := bne_eq_false_iff_eq.mpr c2); (clear c2); (obtain rfl := Option.some.inj H); (go_enter Try.func52, Try.ntmps52)
  go_wp2_with (first | ((with_reducible refine gate_dst (N := 1) rfl ?_); refine box_event ?hg (N := 1) ?hd (cs := #[.string a0_0, .string a0_1]) (t := 48) ?hr ?_; (case hd => rfl); (case hg => rfl); (case hr => first | (go_simp; done) | (go_simp; rfl)); intro gb106 hg w3 hbox hb; have BK106 := Aside0.mk (hbox); have GW106 := Aside0.mk (hs_ hg (q4_0)); replace HB := Aside0.mk (below_step (q4_0) hb); have GE106 := GW106; clear hb hbox hg; obtain ⟨hcz4_0, hcz4_1, hfz4_0, hfz4_1⟩ := bf2_ BK106))
  (go_ret); (exact ⟨by first | rfl | (simp [*, errW_none, errW_some] <;> rfl), q4_1⟩)
 ·rw [if_neg c2] at H
  (have c2b0 : (a0_1.toList == ([] : List UInt8)) = false := beq_eq_false_iff_ne.mpr c2); (have c2b1 : (a0_1.toList != ([] : List UInt8)) = true := bne_iff_ne.mpr c2); (obtain rfl := Option.some.inj H); (go_enter Try.func52, Try.ntmps52)
  go_wp2_with (first | ((with_reducible refine gate_dst (N := 1) rfl ?_); refine box_event ?hg (N := 1) ?hd (cs := #[.string a0_0, .string a0_1]) (t := 48) ?hr ?_; (case hd => rfl); (case hg => rfl); (case hr => first | (go_simp; done) | (go_simp; rfl)); intro gb106 hg w5 hbox hb; have BK106 := Aside0.mk (hbox); have GW106 := Aside0.mk (hs_ hg (q4_0)); replace HB := Aside0.mk (below_step (q4_0) hb); have GE106 := GW106; clear hb hbox hg; obtain ⟨hcz6_0, hcz6_1, hfz6_0, hfz6_1⟩ := bf2_ BK106))
  (go_ret); (exact ⟨by first | rfl | (simp [*, errW_none, errW_some] <;> rfl), q4_1⟩)
theorem q3_0 {P : Prop} (h : P := by (with_reducible repeat first | exact HB.out | apply y1_ | apply y2_ | apply y3_) <;> exact HB.out) : P := h
theorem q3_1 {P : Prop} (h : P := by (with_reducible repeat first | exact HB.out | apply y1_ | apply y2_ | apply y3_ | refine y4_ ?_ GE104.out) <;> exact HB.out) : P := h
theorem q3_2 {P : Prop} (h : P := by (with_reducible repeat first | apply z1_ | apply z2_ | apply z3_); exact BK104.out) : P := h
theorem q3_3 {P : Prop} (h : P := by (with_reducible repeat first | exact HB.out | apply y1_ | apply y2_ | apply y3_ | refine y4_ ?_ GE104.out | refine y4_ ?_ GE105.out) <;> exact HB.out) : P := h
/-! ### catchmentref12_Ahead: function 30 -/
def catchmentref12_Ahead.f (a0_0 : Int) (a0_1 : Int) (a0_2 : ByteArray) (a0_3 : ByteArray) (a0_4 : ByteArray) (a0_5 : Int) (a1_0 : Int) (a1_1 : Int) (a1_2 : ByteArray) (a1_3 : ByteArray) (a1_4 : ByteArray) (a1_5 : Int) : Option (Bool) := if a0_1 < a1_1 then (some true) else (if a0_1 = a1_1 then (some (Op.bytesLess a0_2.toList a1_2.toList)) else (some false))
set_option maxHeartbeats 8000000 in
set_option maxRecDepth 100000 in
theorem catchmentref12_Ahead.calls (a0_0 : Int) (a0_1 : Int) (a0_2 : ByteArray) (a0_3 : ByteArray) (a0_4 : ByteArray) (a0_5 : Int) (a1_0 : Int) (a1_1 : Int) (a1_2 : ByteArray) (a1_3 : ByteArray) (a1_4 : ByteArray) (a1_5 : Int) (r : Bool) (w : World) (h : catchmentref12_Ahead.f a0_0 a0_1 a0_2 a0_3 a0_4 a0_5 a1_0 a1_1 a1_2 a1_3 a1_4 a1_5 = some r) :
  Calls Try.prog 30 #[.agg #[.int .u8 a0_0, .int .i64 a0_1, .string a0_2, .string a0_3, .string a0_4, .int .u64 a0_5], .agg #[.int .u8 a1_0, .int .i64 a1_1, .string a1_2, .string a1_3, .string a1_4, .int .u64 a1_5]] w fun e w' => e = .returned (.bool r) ∧ Below w.heap.size w w' := by
 (have hu46 := Try.underlying46); (have HB := Aside0.mk (Below.refl w.heap.size w)); (have H : (if a0_1 < a1_1 then (some true) else (if a0_1 = a1_1 then (some (Op.bytesLess a0_2.toList a1_2.toList)) else (some false))) = some r := h); (clear h); (by_cases c3 : a0_1 < a1_1)
 ·rw [if_pos c3] at H
  (have c3b0 : decide (a0_1 < a1_1) = true := decide_eq_true c3); (clear c3); (obtain rfl := Option.some.inj H); (go_enter Try.func30, Try.ntmps30)
  go_wp2_with (first | ((with_reducible refine gate_dst (N := 2) rfl ?_); refine box_event ?hg (N := 2) ?hd (cs := #[.int .u8 a0_0, .int .i64 a0_1, .string a0_2, .string a0_3, .string a0_4, .int .u64 a0_5]) (t := 46) ?hr ?_; (case hd => rfl); (case hg => rfl); (case hr => first | (go_simp; done) | (go_simp; rfl)); intro gb104 hg w4 hbox hb; have BK104 := Aside0.mk (hbox); have GW104 := Aside0.mk (hs_ hg (q3_0)); replace HB := Aside0.mk (below_step (q3_0) hb); have GE104 := GW104; clear hb hbox hg) | ((with_reducible refine gate_dst (N := 3) rfl ?_); refine box_event ?hg (N := 3) ?hd (cs := #[.int .u8 a1_0, .int .i64 a1_1, .string a1_2, .string a1_3, .string a1_4, .int .u64 a1_5]) (t := 46) ?hr ?_; (case hd => rfl); (case hg => rfl); (case hr => first | (go_simp; done) | (go_simp; rfl)); intro gb105 hg w5 hbox hb; have BK105 := Aside0.mk (hbox); have GW105 := Aside0.mk (hs_ hg (q3_1)); replace HB := Aside0.mk (below_step (q3_1) hb); have GE105 := GW105; have NB104_105 := Aside0.mk (nl_ hg (q3_2)); have NB105_104 := Aside0.mk (ng_ hg (q3_2)); replace BK104 := Aside0.mk (blk_below (q3_2) hb); clear hb hbox hg; have hnb6 := NB104_105.out; have hnc6 := NB105_104.out; obtain ⟨hcz7_0, hcz7_1, hcz7_2, hcz7_3, hcz7_4, hcz7_5, hfz7_0, hfz7_1, hfz7_2, hfz7_3, hfz7_4, hfz7_5⟩ := bf6_ BK104; obtain ⟨hcz8_0, hcz8_1, hcz8_2, hcz8_3, hcz8_4, hcz8_5, hfz8_0, hfz8_1, hfz8_2, hfz8_3, hfz8_4, hfz8_5⟩ := bf6_ BK105))
  (go_ret); (exact ⟨by first | rfl | (simp [*, errW_none, errW_some] <;> rfl), q3_3⟩)
 ·rw [if_neg c3] at H
  (have c3b0 : decide (a0_1 < a1_1) = false := decide_eq_false c3); (clear c3); (by_cases c9 : a0_1 = a1_1)
  ·rw [if_pos c9] at H
   (have c9b0 : (a0_1 == a1_1) = true := beq_iff_eq.mpr c9); (have c9b1 : (a0_1 != a1_1) = false := bne_eq_false_iff_eq.mpr c9); (clear c9); (obtain rfl := Option.some.inj H); (go_enter Try.func30, Try.ntmps30)
   go_wp2_with (first | ((with_reducible refine gate_dst (N := 2) rfl ?_); refine box_event ?hg (N := 2) ?hd (cs := #[.int .u8 a0_0, .int .i64 a0_1, .string a0_2, .string a0_3, .string a0_4, .int .u64 a0_5]) (t := 46) ?hr ?_; (case hd => rfl); (case hg => rfl); (case hr => first | (go_simp; done) | (go_simp; rfl)); intro gb104 hg w10 hbox hb; have BK104 := Aside0.mk (hbox); have GW104 := Aside0.mk (hs_ hg (q3_0)); replace HB := Aside0.mk (below_step (q3_0) hb); have GE104 := GW104; clear hb hbox hg) | ((with_reducible refine gate_dst (N := 3) rfl ?_); refine box_event ?hg (N := 3) ?hd (cs := #[.int .u8 a1_0, .int .i64 a1_1, .string a1_2, .string a1_3, .string a1_4, .int .u64 a1_5]) (t := 46) ?hr ?_; (case hd => rfl); (case hg => rfl); (case hr => first | (go_simp; done) | (go_simp; rfl)); intro gb105 hg w11 hbox hb; have BK105 := Aside0.mk (hbox); have GW105 := Aside0.mk (hs_ hg (q3_1)); replace HB := Aside0.mk (below_step (q3_1) hb); have GE105 := GW105; have NB104_105 := Aside0.mk (nl_ hg (q3_2)); have NB105_104 := Aside0.mk (ng_ hg (q3_2)); replace BK104 := Aside0.mk (blk_below (q3_2) hb); clear hb hbox hg; have hnb12 := NB104_105.out; have hnc12 := NB105_104.out; obtain ⟨hcz13_0, hcz13_1, hcz13_2, hcz13_3, hcz13_4, hcz13_5, hfz13_0, hfz13_1, hfz13_2, hfz13_3, hfz13_4, hfz13_5⟩ := bf6_ BK104; obtain ⟨hcz14_0, hcz14_1, hcz14_2, hcz14_3, hcz14_4, hcz14_5, hfz14_0, hfz14_1, hfz14_2, hfz14_3, hfz14_4, hfz14_5⟩ := bf6_ BK105))
   (go_ret); (exact ⟨by first | rfl | (simp [*, errW_none, errW_some] <;> rfl), q3_3⟩)
  ·rw [if_neg c9] at H
   (have c9b0 : (a0_1 == a1_1) = false := beq_eq_false_iff_ne.mpr c9); (have c9b1 : (a0_1 != a1_1) = true := bne_iff_ne.mpr c9); (obtain rfl := Option.some.inj H); (go_enter Try.func30, Try.ntmps30)
   go_wp2_with (first | ((with_reducible refine gate_dst (N := 2) rfl ?_); refine box_event ?hg (N := 2) ?hd (cs := #[.int .u8 a0_0, .int .i64 a0_1, .string a0_2, .string a0_3, .string a0_4, .int .u64 a0_5]) (t := 46) ?hr ?_; (case hd => rfl); (case hg => rfl); (case hr => first | (go_simp; done) | (go_simp; rfl)); intro gb104 hg w15 hbox hb; have BK104 := Aside0.mk (hbox); have GW104 := Aside0.mk (hs_ hg (q3_0)); replace HB := Aside0.mk (below_step (q3_0) hb); have GE104 := GW104; clear hb hbox hg) | ((with_reducible refine gate_dst (N := 3) rfl ?_); refine box_event ?hg (N := 3) ?hd (cs := #[.int .u8 a1_0, .int .i64 a1_1, .string a1_2, .string a1_3, .string a1_4, .int .u64 a1_5]) (t := 46) ?hr ?_; (case hd => rfl); (case hg => rfl); (case hr => first | (go_simp; done) | (go_simp; rfl)); intro gb105 hg w16 hbox hb; have BK105 := Aside0.mk (hbox); have GW105 := Aside0.mk (hs_ hg (q3_1)); replace HB := Aside0.mk (below_step (q3_1) hb); have GE105 := GW105; have NB104_105 := Aside0.mk (nl_ hg (q3_2)); have NB105_104 := Aside0.mk (ng_ hg (q3_2)); replace BK104 := Aside0.mk (blk_below (q3_2) hb); clear hb hbox hg; have hnb17 := NB104_105.out; have hnc17 := NB105_104.out; obtain ⟨hcz18_0, hcz18_1, hcz18_2, hcz18_3, hcz18_4, hcz18_5, hfz18_0, hfz18_1, hfz18_2, hfz18_3, hfz18_4, hfz18_5⟩ := bf6_ BK104; obtain ⟨hcz19_0, hcz19_1, hcz19_2, hcz19_3, hcz19_4, hcz19_5, hfz19_0, hfz19_1, hfz19_2, hfz19_3, hfz19_4, hfz19_5⟩ := bf6_ BK105))
   (go_ret); (exact ⟨by first | rfl | (simp [*, errW_none, errW_some] <;> rfl), q3_3⟩)
theorem q5_0 {P : Prop} (h : P := by (with_reducible repeat first | exact HB.out | apply y1_ | apply y2_ | apply y3_) <;> exact HB.out) : P := h
theorem q5_1 {P : Prop} (h : P := by (with_reducible repeat first | exact HB.out | apply y1_ | apply y2_ | apply y3_ | refine y4_ ?_ GE107.out) <;> exact HB.out) : P := h
/-! ### catchmentref04_Point: function 116 -/
def catchmentref04_Point.f (a0_0 : Int) (a0_1 : Int) (a0_2 : ByteArray) (a0_3 : ByteArray) (a0_4 : ByteArray) (a0_5 : Int) : Option (Bool) := if a0_0 ≥ 1 then (some (decide (a0_0 ≤ 3))) else (some false)
set_option maxHeartbeats 8000000 in
set_option maxRecDepth 100000 in
theorem catchmentref04_Point.calls (a0_0 : Int) (a0_1 : Int) (a0_2 : ByteArray) (a0_3 : ByteArray) (a0_4 : ByteArray) (a0_5 : Int) (r : Bool) (w : World) (h : catchmentref04_Point.f a0_0 a0_1 a0_2 a0_3 a0_4 a0_5 = some r) :
  Calls Try.prog 116 #[.agg #[.int .u8 a0_0, .int .i64 a0_1, .string a0_2, .string a0_3, .string a0_4, .int .u64 a0_5]] w fun e w' => e = .returned (.bool r) ∧ Below w.heap.size w w' := by
 (have hu46 := Try.underlying46); (have HB := Aside0.mk (Below.refl w.heap.size w)); (have H : (if a0_0 ≥ 1 then (some (decide (a0_0 ≤ 3))) else (some false)) = some r := h); (clear h); (by_cases c2 : a0_0 ≥ 1)
 ·rw [if_pos c2] at H
  (have c2b0 : decide (1 ≤ a0_0) = true := decide_eq_true c2); (clear c2); (obtain rfl := Option.some.inj H); (go_enter Try.func116, Try.ntmps116)
  go_wp2_with (first | ((with_reducible refine gate_dst (N := 1) rfl ?_); refine box_event ?hg (N := 1) ?hd (cs := #[.int .u8 a0_0, .int .i64 a0_1, .string a0_2, .string a0_3, .string a0_4, .int .u64 a0_5]) (t := 46) ?hr ?_; (case hd => rfl); (case hg => rfl); (case hr => first | (go_simp; done) | (go_simp; rfl)); intro gb107 hg w3 hbox hb; have BK107 := Aside0.mk (hbox); have GW107 := Aside0.mk (hs_ hg (q5_0)); replace HB := Aside0.mk (below_step (q5_0) hb); have GE107 := GW107; clear hb hbox hg; obtain ⟨hcz4_0, hcz4_1, hcz4_2, hcz4_3, hcz4_4, hcz4_5, hfz4_0, hfz4_1, hfz4_2, hfz4_3, hfz4_4, hfz4_5⟩ := bf6_ BK107))
  (go_ret); (exact ⟨by first | rfl | (simp [*, errW_none, errW_some] <;> rfl), q5_1⟩)
 ·rw [if_neg c2] at H
  (have c2b0 : decide (1 ≤ a0_0) = false := decide_eq_false c2); (clear c2); (obtain rfl := Option.some.inj H); (go_enter Try.func116, Try.ntmps116)
  go_wp2_with (first | ((with_reducible refine gate_dst (N := 1) rfl ?_); refine box_event ?hg (N := 1) ?hd (cs := #[.int .u8 a0_0, .int .i64 a0_1, .string a0_2, .string a0_3, .string a0_4, .int .u64 a0_5]) (t := 46) ?hr ?_; (case hd => rfl); (case hg => rfl); (case hr => first | (go_simp; done) | (go_simp; rfl)); intro gb107 hg w5 hbox hb; have BK107 := Aside0.mk (hbox); have GW107 := Aside0.mk (hs_ hg (q5_0)); replace HB := Aside0.mk (below_step (q5_0) hb); have GE107 := GW107; clear hb hbox hg; obtain ⟨hcz6_0, hcz6_1, hcz6_2, hcz6_3, hcz6_4, hcz6_5, hfz6_0, hfz6_1, hfz6_2, hfz6_3, hfz6_4, hfz6_5⟩ := bf6_ BK107))
  (go_ret); (exact ⟨by first | rfl | (simp [*, errW_none, errW_some] <;> rfl), q5_1⟩)
/-! ### catchmentref02_Meet: function 88 -/
def catchmentref02_Meet.ahd (a e : List UInt8) : Bool := e.isEmpty || Op.bytesLess a e
def catchmentref02_Meet.bef (a b : List UInt8) : Bool := !a.isEmpty && (b.isEmpty || Op.bytesLess a b)
def catchmentref02_Meet.f (a0_0 : ByteArray) (a0_1 : ByteArray) (a1_0 : ByteArray) (a1_1 : ByteArray) : Option (ByteArray × ByteArray × Bool) :=
 if catchmentref02_Meet.ahd a0_0.toList a0_1.toList = true ∧ catchmentref02_Meet.ahd a1_0.toList a1_1.toList = true ∧ catchmentref02_Meet.ahd (smx a0_0 a1_0).toList (if catchmentref02_Meet.bef a1_1.toList a0_1.toList = true then a1_1 else a0_1).toList = true then
  some (smx a0_0 a1_0, (if catchmentref02_Meet.bef a1_1.toList a0_1.toList = true then a1_1 else a0_1), true) else some (⟨#[]⟩, ⟨#[]⟩, false)
set_option maxHeartbeats 8000000 in
set_option maxRecDepth 100000 in
theorem catchmentref02_Meet.calls (a0_0 : ByteArray) (a0_1 : ByteArray) (a1_0 : ByteArray) (a1_1 : ByteArray) (r1 : ByteArray) (r2 : ByteArray) (r3 : Bool) (w : World) (h : catchmentref02_Meet.f a0_0 a0_1 a1_0 a1_1 = some (r1, r2, r3)) :
  Calls Try.prog 88 #[.agg #[.string a0_0, .string a0_1], .agg #[.string a1_0, .string a1_1]] w fun e w' => e = .returned (.tuple #[.agg #[.string r1, .string r2], .bool r3]) ∧ Below w.heap.size w w' := by
 have H := Aside0.mk h
 clear h
 go_enter Try.func88, Try.ntmps88
 go_wp2
 all_goals
  have h := H.out
  clear H
  refine bodyPost_ret (v := .tuple #[.agg #[.string r1, .string r2], .bool r3]) ?_ rfl ⟨rfl, by repeat (first | exact Below.refl _ _ | apply below_alloc | refine below_set ?_ (by simp))⟩
  first | (simp_all [results, Try.results88, go_sem, catchmentref02_Meet.f, catchmentref02_Meet.ahd, catchmentref02_Meet.bef, smx]; done) | (simp_all [results, Try.results88, go_sem, catchmentref02_Meet.f, catchmentref02_Meet.ahd, catchmentref02_Meet.bef, smx]; exact h.1.symm.trans h.2.1)
/-! ### api_Msg_89: function 89 -/
open Go.Proofs.YtnklnjghecmihaaW.Sl
theorem api_Msg_89.info : (Try.prog.info? 46).map (fun i => (i.zero, i.size, i.bytes)) = some (some (.agg #[(.int .u8 0), (.int .i64 0), (.string ⟨#[]⟩), (.string ⟨#[]⟩), (.string ⟨#[]⟩), (.int .u64 0)]), 6, 72) := by kernel_rfl
def api_Msg_89.total (ls : List (List S46)) : Nat := (ls.map List.length).sum
def api_Msg_89.f (ls : List (List S46)) : Option (List S46) := if api_Msg_89.total ls < 1000000 then some ls.flatten else none
set_option maxHeartbeats 4000000 in
set_option maxRecDepth 100000 in
theorem api_Msg_89.grow (n : Nat) (hn : n < 1000000) (w : World) :
  Calls Try.prog 129 #[.slice none 0 0, .int .i64 (n : Int)] w fun e w' => ∃ v : Value, e = .returned v ∧ Kd.R k46 46 w' w.heap.size (fun _ => True) v [] ∧ Below w.heap.size w w' := by
 by_cases h0 : n = 0
 ·subst h0
  go_enter Try.func129, Try.ntmps129
  go_wp2
  go_ret
  exact ⟨_, rfl, Kd.R_nil _ _ _ _ _, Below.refl _ _⟩
 ·obtain ⟨i0, hi, hz0, hz1, hz2⟩ := info_parts api_Msg_89.info
  have hrun := Lib.run_append_nil_zeros (P := Try.prog) w 36 3 36 46 i0 _ .i64 .i64 Try.underlying36 Try.underlying3 hi hz0 n (by omega) (by omega) (by omega) (by rw [hz2]; omega)
  have hcap := grownCap_ge w n 0 46
  have hcm := grownCap_le_maxLen w n 0 46 (by unfold maxLen; omega)
  have hsz : (Builtin.zeroCells ((.agg #[(.int .u8 0), (.int .i64 0), (.string ⟨#[]⟩), (.string ⟨#[]⟩), (.string ⟨#[]⟩), (.int .u64 0)]) : Value).cells n ++ Builtin.zeroCells ((.agg #[(.int .u8 0), (.int .i64 0), (.string ⟨#[]⟩), (.string ⟨#[]⟩), (.string ⟨#[]⟩), (.int .u64 0)]) : Value).cells (grownCap w n 0 46 - n)).size = grownCap w n 0 46 * 6 := by
   simp only [Array.size_append, size_zeroCells]
   simp [Value.cells]
   omega
  have HRUN := Aside0.mk hrun
  have HSZ := Aside0.mk hsz
  have HCM := Aside0.mk hcm
  generalize grownCap w n 0 46 = cap at *
  have hpos : (0 : Int) < (n : Int) := by omega
  have hpos' : decide ((0 : Int) < (n : Int)) = true := decide_eq_true hpos
  clear hrun hsz hcm hi hz0 hz1 hz2 h0
  go_enter Try.func129, Try.ntmps129
  go_wp2_with (at_builtin; refine Lib.wpList_append_run _ rfl _ _ _ _ rfl _ _ rfl rfl _ _ HRUN.out ?_)
  go_ret
  exact ⟨_, rfl, grown_nil k46 46 _ cap HCM.out HSZ.out, ((Below.refl _ w).drew).alloc (Nat.le_refl _) _⟩
theorem api_Msg_89.total_take (ls : List (List S46)) (k : Nat) (hk : k < ls.length) : api_Msg_89.total (ls.take (k + 1)) = api_Msg_89.total (ls.take k) + (ls.getD k []).length := by
 unfold api_Msg_89.total
 rw [List.take_add_one, List.getElem?_eq_getElem hk, List.map_append, List.sum_append, List.getD_eq_getElem?_getD, List.getElem?_eq_getElem hk]
 simp
theorem api_Msg_89.total_le (ls : List (List S46)) (k : Nat) : api_Msg_89.total (ls.take k) ≤ api_Msg_89.total ls := by
 have h := List.take_append_drop k ls
 have : api_Msg_89.total ls = api_Msg_89.total (ls.take k) + api_Msg_89.total (ls.drop k) := by
  unfold api_Msg_89.total
  rw [← List.sum_append, ← List.map_append, h]
 omega
theorem api_Msg_89.flat_len (ls : List (List S46)) : ls.flatten.length = api_Msg_89.total ls := by simp [api_Msg_89.total, List.length_flatten]
theorem api_Msg_89.flat_take (ls : List (List S46)) (k : Nat) (hk : k < ls.length) : (ls.take (k + 1)).flatten = (ls.take k).flatten ++ ls.getD k [] := by
 rw [List.take_add_one, List.getElem?_eq_getElem hk, List.flatten_append, List.getD_eq_getElem?_getD, List.getElem?_eq_getElem hk]
 simp
set_option maxHeartbeats 8000000 in
set_option maxRecDepth 100000 in
theorem api_Msg_89.calls (A0 : Option Addr) (c0 : Nat) (l0 : List (List S46)) (r : List S46) (w : World) (hr0 : Kd.C (Kd.slice 46 k46) w A0 l0.length l0) (hc0 : l0.length ≤ c0) (h : api_Msg_89.f l0 = some r) :
  Calls Try.prog 89 #[.slice A0 l0.length c0] w fun e w' => ∃ v0_ : Value, e = .returned (v0_) ∧ Kd.R k46 46 w' w.heap.size (fun _ => True) v0_ r ∧ Below w.heap.size w w' := by
 have hT : api_Msg_89.total l0 < 1000000 := by
  unfold api_Msg_89.f at h
  split at h
  ·assumption
  ·exact absurd h (by simp)
 unfold api_Msg_89.f at h
 rw [if_pos hT] at h
 obtain rfl := Option.some.inj h
 have hn0 : l0.length ≤ 9223372036854775807 := hr0.2.1
 have HT := Aside0.mk hT
 have HR0 := Aside0.mk hr0
 clear h hT hr0
 go_enter Try.func89, Try.ntmps89
 go_wp2
 go_loop [3, 11] (fun s i => ∃ k : Nat, k ≤ l0.length ∧ i = .int .i64 (k : Int) ∧ s = .int .i64 (api_Msg_89.total (l0.take k) : Int)) (fun _ i => l0.length - (intOf i).toNat)
 case atStart => exact ⟨0, Nat.zero_le _, rfl, rfl⟩
 case round =>
  obtain ⟨k, hk, rfl, rfl⟩ := hrel
  have hle := api_Msg_89.total_le l0 k
  have hle1 := api_Msg_89.total_le l0 (k + 1)
  have hT := HT.out
  by_cases hlt : k < l0.length
  ·obtain ⟨ad, A', c', rfl, hcell, hlc, _⟩ := C_row HR0.out k hlt
   have hs := api_Msg_89.total_take l0 k hlt
   have HS := Aside0.mk hs
   have b1 : 0 ≤ (api_Msg_89.total (l0.take k) : Int) := by omega
   have b2 : (api_Msg_89.total (l0.take k) : Int) ≤ 1000000 := by omega
   have b3 : ((l0.getD k []).length : Int) ≤ 1000000 := by omega
   have b4 : ¬ ((api_Msg_89.total (l0.take k) : Int) + ((l0.getD k []).length : Int) < 0) := by omega
   generalize api_Msg_89.total (l0.take k) = u at *
   generalize (l0.getD k []).length = v at *
   clear hs hle hle1 hT
   go_wp2
   go_round
   case rel => exact ⟨k + 1, by omega, by go_num, by rw [HS.out]; go_num⟩
   case measure => simp [intOf]; omega
  ·obtain rfl : k = l0.length := by omega
   rw [List.take_length] at *
   have b1 : 0 ≤ (api_Msg_89.total l0 : Int) := by omega
   clear hle hle1 hT
   go_wp2_with (go_at_call 129; refine (api_Msg_89.grow (api_Msg_89.total l0) HT.out _).mono ?_; rintro e w1 ⟨v, rfl, hR, hB⟩)
   have HB := Aside0.mk hB
   have HR := Aside0.mk hR
   clear hB hR
   go_loopw [6, 27] (fun s i wr => ∃ k : Nat, k ≤ l0.length ∧ i = .int .i64 (k : Int) ∧ Aside0 (Kd.R k46 46 wr w.heap.size (fun _ => True) s (l0.take k).flatten) ∧ Aside0 (Below w.heap.size w wr)) (fun _ i _ => l0.length - (intOf i).toNat)
   case atStart => exact ⟨0, Nat.zero_le _, rfl, HR, HB⟩
   case round =>
    obtain ⟨k, hk, rfl, HR, HB⟩ := hrel
    by_cases hlt : k < l0.length
    ·obtain ⟨ad, A', c', hA, hcell, hlc, hC⟩ := C_row (Kd.C_below HR0.out HB.out) k hlt
     subst hA
     have hf := api_Msg_89.flat_take l0 k hlt
     have e := api_Msg_89.flat_len (l0.take (k + 1))
     have h1 := api_Msg_89.total_le l0 (k + 1)
     have hR6 := HR.out
     clear HR
     generalize l0.getD k [] = row at *
     generalize (l0.take k).flatten = acc at *
     rw [hf, List.length_append] at e
     have hlen : (acc.length + row.length) * 72 ≤ 140737488355328 := by
      have := HT.out
      omega
     have HC := Aside0.mk hC
     have HF := Aside0.mk hf
     have HL := Aside0.mk hlen
     obtain ⟨A6, c6, rfl⟩ := Kd.R_slice hR6
     have HR := Aside0.mk hR6
     clear hf hlen hC e h1 hR6
     go_wp2_with (at_builtin; refine Kd.R_append_rows k46 (Rr := k46.K wr) w.heap.size rfl _ _ 36 46 _ 72 rfl Try.underlying36 api_Msg_89.info rfl (by decide) (by decide) _ acc row _ _ _ (fun _ => True) (fun _ => False) rfl rfl HR.out HC.out (fun _ _ h => h) (fun _ h => h.elim) (fun _ _ => trivial) HB.out HB.out.size HL.out ?_; intro v1 w1 hR1 hB1 _ _; have HR1 := Aside0.mk hR1; have HB1 := Aside0.mk hB1; clear hR1 hB1)
     go_roundw
     case rel => exact ⟨k + 1, by omega, by go_num, by rw [HF.out]; exact HR1, HB1⟩
     case measure => simp [intOf]; omega
    ·obtain rfl : k = l0.length := by omega
     rw [List.take_length] at HR
     go_wp2
     go_ret
     exact ⟨_, rfl, HR.out, HB.out⟩
theorem q12_0 {P : Prop} (h : P := by repeat (first | exact Drawn0.refl _ | apply Drawn0.step)) : P := h
/-! ### cmp_Or_int: function 131 -/
def cmp_Or_int.l0 : Nat → Int → List Int → Int → Int → Option (Int)
 | 0, _, _, _, _ => none
 | k + 1, x3, x6, x7, x8 => if x8 < x7 then (if 0 ≤ x8 then (if x8 < (x6.length : Int) then (if (rd x6 x8) = x3 then (cmp_Or_int.l0 k x3 x6 x7 (wrap64 (x8 + 1))) else (some (rd x6 x8))) else (none)) else (none)) else (some x3)
def cmp_Or_int.f (k : Nat) (l0 : List Int) : Option (Int) := cmp_Or_int.l0 k 0 l0 (l0.length : Int) 0
theorem cmp_Or_int.mono_l : ∀ k, (∀ y0 y1 y2 y3, LeO (cmp_Or_int.l0 k y0 y1 y2 y3) (cmp_Or_int.l0 (k + 1) y0 y1 y2 y3))
 | 0 => fun _ _ _ _ r h => by simp [cmp_Or_int.l0] at h
 | k + 1 => by
  have ih0 := cmp_Or_int.mono_l k
  ·intro y0 y1 y2 y3
   unfold cmp_Or_int.l0
   repeat' (with_reducible first | exact ih0 _ _ _ _ | exact LeO.refl _ | exact LeO.none _ | refine LeO.ite ?_ ?_ | refine LeO.bind ?_ (fun _ => ?_))
theorem cmp_Or_int.mono : ∀ a0 k, LeO (cmp_Or_int.f k a0) (cmp_Or_int.f (k + 1) a0) := by
 (intro a0 k); (have ih0 := cmp_Or_int.mono_l k); (unfold cmp_Or_int.f)
 repeat' (with_reducible first | exact ih0 _ _ _ _ | exact LeO.refl _ | exact LeO.none _ | refine LeO.ite ?_ ?_ | refine LeO.bind ?_ (fun _ => ?_))
set_option maxHeartbeats 8000000 in
set_option maxRecDepth 100000 in
theorem cmp_Or_int.calls (k : Nat) (A0 : Option Addr) (c0 : Nat) (l0 : List Int) (r : Int) (w : World) (hr0 : Kd.C (Kd.int .i64) w A0 l0.length l0) (hc0 : l0.length ≤ c0) (h : cmp_Or_int.f k l0 = some r) :
  Calls Try.prog 131 #[.slice A0 l0.length c0] w fun e w' => e = .returned (.int .i64 r) ∧ Drawn0 w w' := by
 (have HR0 := Aside0.mk hr0); (have HC0 := Aside0.mk hc0); (clear hr0 hc0); (have H : (cmp_Or_int.l0 k 0 l0 (l0.length : Int) 0) = some r := h); (clear h); (have H' := Aside0.mk H); (clear H); (go_enter Try.func131, Try.ntmps131); (go_wp2); (go_loopg [8] k (fun kq v8 w' => ∃ (x8_1 : Int), v8 = .int .i64 x8_1 ∧ Aside0 (cmp_Or_int.l0 kq 0 l0 (l0.length : Int) x8_1 = some r) ∧ Aside0 (kq ≤ k) ∧ Drawn0 w w'))
 case atStart => exact ⟨(0), (by first | rfl | (simp; done) | (simp [*]; done)), H', ⟨Nat.le_refl _⟩, q12_0⟩
 case round =>
  (clear H'); (try clear c1); (obtain ⟨x8_1, rfl, HA, HK1, ⟨m1, rfl⟩⟩ := hrel)
  cases gk with
  | zero => exact absurd HA.out (by simp [cmp_Or_int.l0])
  | succ k1 =>
   (have H := HA.out); (clear HA); (simp only [cmp_Or_int.l0] at H); (by_cases c2 : x8_1 < (l0.length : Int))
   ·rw [if_pos c2] at H
    (have c2b0 : decide (x8_1 < (l0.length : Int)) = true := decide_eq_true c2); (clear c2); (by_cases c3 : 0 ≤ x8_1)
    ·rw [if_pos c3] at H
     (have c3b0 : decide (0 ≤ x8_1) = true := decide_eq_true c3); (clear c3); (by_cases c4 : x8_1 < (l0.length : Int))
     ·rw [if_pos c4] at H
      (have c4b0 : decide (x8_1 < (l0.length : Int)) = true := decide_eq_true c4); (clear c4); (by_cases c5 : (rd l0 x8_1) = 0)
      ·rw [if_pos c5] at H
       (have c5b0 : ((rd l0 x8_1) == 0) = true := beq_iff_eq.mpr c5); (have c5b1 : ((rd l0 x8_1) != 0) = false := bne_eq_false_iff_eq.mpr c5); (clear c5); (have H' := Aside0.mk H); (clear H); (have p132 : 0 ≤ (x8_1 : Int) := of_decide_eq_true (by first | (with_reducible assumption) | assumption)); (have q132 : x8_1 < (l0.length : Int) := of_decide_eq_true (by first | (with_reducible assumption) | assumption)); (obtain ⟨ad132, e132, hx132_0⟩ := Kd.at_int HR0.out x8_1 p132 q132); (cases e132); (replace p132 := eq_true p132); (replace q132 := eq_true q132); (go_wp2); (go_roundg k1)
       case measure => have := HK1.out; omega
       case rel => exact ⟨(wrap64 (x8_1 + 1)), (by first | rfl | (simp; done) | (simp [*]; done)), H', ⟨by have := HK1.out; omega⟩, q12_0⟩
      ·rw [if_neg c5] at H
       (have c5b0 : ((rd l0 x8_1) == 0) = false := beq_eq_false_iff_ne.mpr c5); (have c5b1 : ((rd l0 x8_1) != 0) = true := bne_iff_ne.mpr c5); (obtain rfl := Option.some.inj H); (have p132 : 0 ≤ (x8_1 : Int) := of_decide_eq_true (by first | (with_reducible assumption) | assumption)); (have q132 : x8_1 < (l0.length : Int) := of_decide_eq_true (by first | (with_reducible assumption) | assumption)); (obtain ⟨ad132, e132, hx132_0⟩ := Kd.at_int HR0.out x8_1 p132 q132); (cases e132); (replace p132 := eq_true p132); (replace q132 := eq_true q132); (go_wp2); (go_ret); (exact ⟨by first | rfl | (simp; done) | (simp [*]; done), q12_0⟩)
     ·rw [if_neg c4] at H
      exact absurd H (by simp)
    ·rw [if_neg c3] at H
     exact absurd H (by simp)
   ·rw [if_neg c2] at H
    (have c2b0 : decide (x8_1 < (l0.length : Int)) = false := decide_eq_false c2); (clear c2); (obtain rfl := Option.some.inj H); (go_wp2); (go_ret); (exact ⟨by first | rfl | (simp; done) | (simp [*]; done), q12_0⟩)
/-! ### cmp_isNaN_int: function 157 -/
def cmp_isNaN_int.f (a0 : Int) : Option (Bool) := some (a0 != a0)
set_option maxHeartbeats 8000000 in
set_option maxRecDepth 100000 in
theorem cmp_isNaN_int.calls (a0 : Int) (r : Bool) (w : World) (h : cmp_isNaN_int.f a0 = some r) :
  Calls Try.prog 157 #[.int .i64 a0] w fun e w' => e = .returned (.bool r) ∧ Drawn0 w w' := by
 have H : (some (a0 != a0)) = some r := h
 clear h
 obtain rfl := Option.some.inj H
 go_enter Try.func157, Try.ntmps157
 go_wp2
 go_ret
 exact ⟨by first | rfl | (simp; done) | (simp [*]; done), by repeat (first | exact Drawn0.refl _ | apply Drawn0.step)⟩
/-! ### cmp_isNaN_string: function 158 -/
def cmp_isNaN_string.f (a0 : ByteArray) : Option (Bool) := some (a0.toList != a0.toList)
set_option maxHeartbeats 8000000 in
set_option maxRecDepth 100000 in
theorem cmp_isNaN_string.calls (a0 : ByteArray) (r : Bool) (w : World) (h : cmp_isNaN_string.f a0 = some r) :
  Calls Try.prog 158 #[.string a0] w fun e w' => e = .returned (.bool r) ∧ Drawn0 w w' := by
 have H : (some (a0.toList != a0.toList)) = some r := h
 clear h
 obtain rfl := Option.some.inj H
 go_enter Try.func158, Try.ntmps158
 go_wp2
 go_ret
 exact ⟨by first | rfl | (simp; done) | (simp [*]; done), by repeat (first | exact Drawn0.refl _ | apply Drawn0.step)⟩
theorem q25_0 {P : Prop} (h : P := by (with_reducible repeat first | exact HB.out | apply y1_ | apply y2_ | apply y3_) <;> exact HB.out) : P := h
theorem q25_1 {P : Prop} (h : P := by (with_reducible repeat first | exact HB.out | apply y1_ | apply y2_ | apply y3_ | refine y4_ ?_ GE191.out) <;> exact HB.out) : P := h
/-! ### msg_IsPoint: function 97 -/
def msg_IsPoint.f (a0_0 : Int) (a0_1 : Int) (a0_2 : ByteArray) (a0_3 : ByteArray) (a0_4 : ByteArray) (a0_5 : Int) : Option (Bool) := if a0_0 = 1 then (some true) else (if a0_0 = 2 then (some true) else (some (a0_0 == 3)))
set_option maxHeartbeats 8000000 in
set_option maxRecDepth 100000 in
theorem msg_IsPoint.calls (a0_0 : Int) (a0_1 : Int) (a0_2 : ByteArray) (a0_3 : ByteArray) (a0_4 : ByteArray) (a0_5 : Int) (r : Bool) (w : World) (h : msg_IsPoint.f a0_0 a0_1 a0_2 a0_3 a0_4 a0_5 = some r) :
  Calls Try.prog 97 #[.agg #[.int .u8 a0_0, .int .i64 a0_1, .string a0_2, .string a0_3, .string a0_4, .int .u64 a0_5]] w fun e w' => e = .returned (.bool r) ∧ Below w.heap.size w w' := by
 (have hu46 := Try.underlying46); (have HB := Aside0.mk (Below.refl w.heap.size w)); (have H : (if a0_0 = 1 then (some true) else (if a0_0 = 2 then (some true) else (some (a0_0 == 3)))) = some r := h); (clear h); (by_cases c2 : a0_0 = 1)
 ·rw [if_pos c2] at H
  (have c2b0 : (a0_0 == 1) = true := beq_iff_eq.mpr c2); (have c2b1 : (a0_0 != 1) = false := bne_eq_false_iff_eq.mpr c2); (clear c2); (obtain rfl := Option.some.inj H); (go_enter Try.func97, Try.ntmps97)
  go_wp2_with (first | ((with_reducible refine gate_dst (N := 1) rfl ?_); refine box_event ?hg (N := 1) ?hd (cs := #[.int .u8 a0_0, .int .i64 a0_1, .string a0_2, .string a0_3, .string a0_4, .int .u64 a0_5]) (t := 46) ?hr ?_; (case hd => rfl); (case hg => rfl); (case hr => first | (go_simp; done) | (go_simp; rfl)); intro gb191 hg w3 hbox hb; have BK191 := Aside0.mk (hbox); have GW191 := Aside0.mk (hs_ hg (q25_0)); replace HB := Aside0.mk (below_step (q25_0) hb); have GE191 := GW191; clear hb hbox hg; obtain ⟨hcz4_0, hcz4_1, hcz4_2, hcz4_3, hcz4_4, hcz4_5, hfz4_0, hfz4_1, hfz4_2, hfz4_3, hfz4_4, hfz4_5⟩ := bf6_ BK191))
  (go_ret); (exact ⟨by first | rfl | (simp [*, errW_none, errW_some] <;> rfl), q25_1⟩)
 ·rw [if_neg c2] at H
  (have c2b0 : (a0_0 == 1) = false := beq_eq_false_iff_ne.mpr c2); (have c2b1 : (a0_0 != 1) = true := bne_iff_ne.mpr c2); (by_cases c5 : a0_0 = 2)
  ·rw [if_pos c5] at H
   (have c5b0 : (a0_0 == 2) = true := beq_iff_eq.mpr c5); (have c5b1 : (a0_0 != 2) = false := bne_eq_false_iff_eq.mpr c5); (clear c5); (obtain rfl := Option.some.inj H); (go_enter Try.func97, Try.ntmps97)
   go_wp2_with (first | ((with_reducible refine gate_dst (N := 1) rfl ?_); refine box_event ?hg (N := 1) ?hd (cs := #[.int .u8 a0_0, .int .i64 a0_1, .string a0_2, .string a0_3, .string a0_4, .int .u64 a0_5]) (t := 46) ?hr ?_; (case hd => rfl); (case hg => rfl); (case hr => first | (go_simp; done) | (go_simp; rfl)); intro gb191 hg w6 hbox hb; have BK191 := Aside0.mk (hbox); have GW191 := Aside0.mk (hs_ hg (q25_0)); replace HB := Aside0.mk (below_step (q25_0) hb); have GE191 := GW191; clear hb hbox hg; obtain ⟨hcz7_0, hcz7_1, hcz7_2, hcz7_3, hcz7_4, hcz7_5, hfz7_0, hfz7_1, hfz7_2, hfz7_3, hfz7_4, hfz7_5⟩ := bf6_ BK191))
   (go_ret); (exact ⟨by first | rfl | (simp [*, errW_none, errW_some] <;> rfl), q25_1⟩)
  ·rw [if_neg c5] at H
   (have c5b0 : (a0_0 == 2) = false := beq_eq_false_iff_ne.mpr c5); (have c5b1 : (a0_0 != 2) = true := bne_iff_ne.mpr c5); (obtain rfl := Option.some.inj H); (go_enter Try.func97, Try.ntmps97)
   go_wp2_with (first | ((with_reducible refine gate_dst (N := 1) rfl ?_); refine box_event ?hg (N := 1) ?hd (cs := #[.int .u8 a0_0, .int .i64 a0_1, .string a0_2, .string a0_3, .string a0_4, .int .u64 a0_5]) (t := 46) ?hr ?_; (case hd => rfl); (case hg => rfl); (case hr => first | (go_simp; done) | (go_simp; rfl)); intro gb191 hg w8 hbox hb; have BK191 := Aside0.mk (hbox); have GW191 := Aside0.mk (hs_ hg (q25_0)); replace HB := Aside0.mk (below_step (q25_0) hb); have GE191 := GW191; clear hb hbox hg; obtain ⟨hcz9_0, hcz9_1, hcz9_2, hcz9_3, hcz9_4, hcz9_5, hfz9_0, hfz9_1, hfz9_2, hfz9_3, hfz9_4, hfz9_5⟩ := bf6_ BK191))
   (go_ret); (exact ⟨by first | rfl | (simp [*, errW_none, errW_some] <;> rfl), q25_1⟩)
theorem q26_0 {P : Prop} (h : P := by repeat (first | exact Drawn0.refl _ | apply Drawn0.step)) : P := h
/-! ### key_ahead: function 137 -/
def key_ahead.f (a0 : ByteArray) (a1 : ByteArray) : Option (Bool) := if a1.toList = ([] : List UInt8) then (some true) else (some (Op.bytesLess a0.toList a1.toList))
set_option maxHeartbeats 8000000 in
set_option maxRecDepth 100000 in
theorem key_ahead.calls (a0 : ByteArray) (a1 : ByteArray) (r : Bool) (w : World) (h : key_ahead.f a0 a1 = some r) :
  Calls Try.prog 137 #[.string a0, .string a1] w fun e w' => e = .returned (.bool r) ∧ Drawn0 w w' := by
 (have H : (if a1.toList = ([] : List UInt8) then (some true) else (some (Op.bytesLess a0.toList a1.toList))) = some r := h); (clear h); (by_cases c3 : a1.toList = ([] : List UInt8))
 ·rw [if_pos c3] at H
  (have c3b0 : (a1.toList == ([] : List UInt8)) = true := beq_iff_eq.mpr c3); (have c3b1 : (a1.toList != ([] : List UInt8)) = false := bne_eq_false_iff_eq.mpr c3); (clear c3); (obtain rfl := Option.some.inj H); (go_enter Try.func137, Try.ntmps137); (go_wp2); (go_ret); (exact ⟨by first | rfl | (simp; done) | (simp [*]; done), q26_0⟩)
 ·rw [if_neg c3] at H
  (have c3b0 : (a1.toList == ([] : List UInt8)) = false := beq_eq_false_iff_ne.mpr c3); (have c3b1 : (a1.toList != ([] : List UInt8)) = true := bne_iff_ne.mpr c3); (obtain rfl := Option.some.inj H); (go_enter Try.func137, Try.ntmps137); (go_wp2); (go_ret); (exact ⟨by first | rfl | (simp; done) | (simp [*]; done), q26_0⟩)
theorem q27_0 {P : Prop} (h : P := by (with_reducible repeat first | exact HB.out | apply y1_ | apply y2_ | apply y3_) <;> exact HB.out) : P := h
/-! ### key_RightRange: function 98 -/
def key_RightRange.f (a0_0 : ByteArray) (a0_1 : ByteArray) : Option (Bool) := (key_ahead.f a0_0 a0_1).bind fun t193 => (some t193)
set_option maxHeartbeats 8000000 in
set_option maxRecDepth 100000 in
theorem key_RightRange.calls (a0_0 : ByteArray) (a0_1 : ByteArray) (r : Bool) (w : World) (h : key_RightRange.f a0_0 a0_1 = some r) :
  Calls Try.prog 98 #[.agg #[.string a0_0, .string a0_1]] w fun e w' => e = .returned (.bool r) ∧ Below w.heap.size w w' := by
 (have hu48 := Try.underlying48); (have HB := Aside0.mk (Below.refl w.heap.size w)); (have H : ((key_ahead.f a0_0 a0_1).bind fun t193 => (some t193)) = some r := h); (clear h); (replace H := Option.bind_eq_some_iff.mp H); (obtain ⟨t193, A20, H⟩ := H); (replace H : (some t193) = some r := H); (have A2 := Aside0.mk A20); (clear A20); (obtain rfl := Option.some.inj H); (go_enter Try.func98, Try.ntmps98)
 go_wp2_with (first | ((with_reducible refine gate_dst (N := 1) rfl ?_); refine box_event ?hg (N := 1) ?hd (cs := #[.string a0_0, .string a0_1]) (t := 48) ?hr ?_; (case hd => rfl); (case hg => rfl); (case hr => first | (go_simp; done) | (go_simp; rfl)); intro gb192 hg w3 hbox hb; have BK192 := Aside0.mk (hbox); have GW192 := Aside0.mk (hs_ hg (q27_0)); replace HB := Aside0.mk (below_step (q27_0) hb); have GE192 := GW192; clear hb hbox hg; obtain ⟨hcz4_0, hcz4_1, hfz4_0, hfz4_1⟩ := bf2_ BK192) | ((with_reducible refine gate_callee (f := 137) rfl ?_); refine goesL_ (some 7) rfl rfl Try.func137 (by kernel_rfl) rfl #[.string a0_0, .string a0_1] rfl (by (try simp only [List.map_toArray, List.map_cons, List.map_nil]); first | done | rfl) ?_; (with_reducible refine (key_ahead.calls a0_0 a0_1 t193 _ A2.out).mono ?_); rintro e w' ⟨rfl, ⟨nd, rfl⟩⟩; refine ⟨_, rfl, ?_⟩))
 (go_ret); (exact ⟨by first | rfl | (simp [*, errW_none, errW_some] <;> rfl), by (with_reducible repeat first | exact HB.out | apply y1_ | apply y2_ | apply y3_ | refine y4_ ?_ GE192.out) <;> exact HB.out⟩)
/-! ### key_After: function 160 -/
def key_After.f (a0 : ByteArray) : Option (ByteArray) := if a0.size + 1 ≤ 9223372036854775807 then (some (a0 ++ (⟨#[0]⟩ : ByteArray))) else (none)
set_option maxHeartbeats 8000000 in
set_option maxRecDepth 100000 in
theorem key_After.calls (a0 : ByteArray) (r : ByteArray) (w : World) (h : key_After.f a0 = some r) :
  Calls Try.prog 160 #[.string a0] w fun e w' => e = .returned (.string r) ∧ Drawn0 w w' := by
 (have H : (if a0.size + 1 ≤ 9223372036854775807 then (some (a0 ++ (⟨#[0]⟩ : ByteArray))) else (none)) = some r := h); (clear h); (by_cases c2 : a0.size + 1 ≤ 9223372036854775807)
 ·rw [if_pos c2] at H
  (have c2b0 := eq_true c2); (have c2b1 : decide (a0.size + 1 ≤ 9223372036854775807) = true := decide_eq_true c2); (try have c2b2 : (9223372036854775807 < a0.size + 1) = False := eq_false (Nat.not_lt.2 c2)); (obtain rfl := Option.some.inj H); (go_enter Try.func160, Try.ntmps160); (go_wp2); (go_ret); (exact ⟨by first | rfl | (simp; done) | (simp [*]; done), by repeat (first | exact Drawn0.refl _ | apply Drawn0.step)⟩)
 ·rw [if_neg c2] at H
  exact absurd H (by simp)
theorem q29_0 {P : Prop} (h : P := by (with_reducible repeat first | exact HB.out | apply y1_ | apply y2_ | apply y3_) <;> exact HB.out) : P := h
theorem q29_1 {P : Prop} (h : P := by (with_reducible repeat first | exact HB.out | apply y1_ | apply y2_ | apply y3_ | refine y4_ ?_ GE194.out) <;> exact HB.out) : P := h
/-! ### key_Point: function 138 -/
def key_Point.f (a0 : ByteArray) : Option (ByteArray × ByteArray) := (key_After.f a0).bind fun t195 => (some (a0, t195))
set_option maxHeartbeats 8000000 in
set_option maxRecDepth 100000 in
theorem key_Point.calls (a0 : ByteArray) (r1 : ByteArray) (r2 : ByteArray) (w : World) (h : key_Point.f a0 = some (r1, r2)) :
  Calls Try.prog 138 #[.string a0] w fun e w' => e = .returned (.agg #[.string r1, .string r2]) ∧ Below w.heap.size w w' := by
 (have hu48 := Try.underlying48); (have HB := Aside0.mk (Below.refl w.heap.size w)); (have H : ((key_After.f a0).bind fun t195 => (some (a0, t195))) = some (r1, r2) := h); (clear h); (replace H := Option.bind_eq_some_iff.mp H); (obtain ⟨t195, A20, H⟩ := H); (replace H : (some (a0, t195)) = some (r1, r2) := H); (have A2 := Aside0.mk A20); (clear A20); (simp only [Option.some.injEq, Prod.mk.injEq] at H); (obtain ⟨rfl, rfl⟩ := H); (go_enter Try.func138, Try.ntmps138)
 go_wp2_with (first | ((with_reducible refine gate_dst (N := 2) rfl ?_); refine box_event ?hg (N := 2) ?hd (cs := #[.string ⟨#[]⟩, .string ⟨#[]⟩]) (t := 48) ?hr ?_; (case hd => rfl); (case hg => rfl); (case hr => first | (go_simp; done) | (go_simp; rfl)); intro gb194 hg w3 hbox hb; have BK194 := Aside0.mk (hbox); have GW194 := Aside0.mk (hs_ hg (q29_0)); replace HB := Aside0.mk (below_step (q29_0) hb); have GE194 := GW194; clear hb hbox hg) | ((with_reducible refine gate_callee (f := 160) rfl ?_); refine goesL_ (some 5) rfl rfl Try.func160 (by kernel_rfl) rfl #[.string a0] rfl (by (try simp only [List.map_toArray, List.map_cons, List.map_nil]); first | done | rfl) ?_; (with_reducible refine (key_After.calls a0 t195 _ A2.out).mono ?_); rintro e w' ⟨rfl, ⟨nd, rfl⟩⟩; refine ⟨_, rfl, ?_⟩; (try (rw [drewN_self w3]; generalize hq_ : World.drewN w3 _ = w3; replace BK194 : Aside0 (w3.heap[gb194]? = some (.cells #[.string ⟨#[]⟩, .string ⟨#[]⟩] 48 (0, 0))) := ⟨by rw [← hq_]; exact (by (with_reducible repeat first | apply z1_ | apply z2_ | apply z3_); exact BK194.out)⟩; replace HB : Aside0 (Below w.heap.size w w3) := ⟨by rw [← hq_]; exact (q29_1)⟩; clear hq_)); obtain ⟨hcz4_0, hcz4_1, hfz4_0, hfz4_1⟩ := bf2_ BK194))
 (refine bodyPost_ret (results_cell_row rfl _ _ gb194 48 #[.string a0, .string t195] (0, 0) _ rfl (by (with_reducible repeat first | apply z1_ | apply z2_ | apply z3_); refine blk_put (cs := #[.string a0, .string ⟨#[]⟩]) ?_ 1 _ rfl; (with_reducible repeat first | apply z1_ | apply z2_ | apply z3_); refine blk_put (cs := #[.string ⟨#[]⟩, .string ⟨#[]⟩]) ?_ 0 _ rfl; (with_reducible repeat first | apply z1_ | apply z2_ | apply z3_); exact BK194.out) Try.underlying48 rfl (by kernel_rfl)) rfl ?_); (exact ⟨by first | rfl | (simp [*, errW_none, errW_some] <;> rfl), q29_1⟩)
theorem q31_0 {P : Prop} (h : P := by (with_reducible repeat first | exact HB.out | apply y1_ | apply y2_ | apply y3_) <;> exact HB.out) : P := h
theorem q31_1 {P : Prop} (h : P := by (with_reducible repeat first | exact HB.out | apply y1_ | apply y2_ | apply y3_ | refine y4_ ?_ GE201.out) <;> exact HB.out) : P := h
/-! ### key_Holds: function 134 -/
def key_Holds.f (a0_0 : ByteArray) (a0_1 : ByteArray) (a1 : ByteArray) : Option (Bool) := if ((Op.bytesLess a1.toList a0_0.toList) = true) then (some false) else ((key_ahead.f a1 a0_1).bind fun t202 => (some t202))
set_option maxHeartbeats 8000000 in
set_option maxRecDepth 100000 in
theorem key_Holds.calls (a0_0 : ByteArray) (a0_1 : ByteArray) (a1 : ByteArray) (r : Bool) (w : World) (h : key_Holds.f a0_0 a0_1 a1 = some r) :
  Calls Try.prog 134 #[.agg #[.string a0_0, .string a0_1], .string a1] w fun e w' => e = .returned (.bool r) ∧ Below w.heap.size w w' := by
 (have hu48 := Try.underlying48); (have HB := Aside0.mk (Below.refl w.heap.size w)); (have H : (if ((Op.bytesLess a1.toList a0_0.toList) = true) then (some false) else ((key_ahead.f a1 a0_1).bind fun t202 => (some t202))) = some r := h); (clear h); (by_cases c3 : ((Op.bytesLess a1.toList a0_0.toList) = true))
 ·rw [if_pos c3] at H
  (have c3b0 : (Op.bytesLess a1.toList a0_0.toList) = true := c3); (clear c3); (obtain rfl := Option.some.inj H); (go_enter Try.func134, Try.ntmps134)
  go_wp2_with (first | ((with_reducible refine gate_dst (N := 2) rfl ?_); refine box_event ?hg (N := 2) ?hd (cs := #[.string a0_0, .string a0_1]) (t := 48) ?hr ?_; (case hd => rfl); (case hg => rfl); (case hr => first | (go_simp; done) | (go_simp; rfl)); intro gb201 hg w4 hbox hb; have BK201 := Aside0.mk (hbox); have GW201 := Aside0.mk (hs_ hg (q31_0)); replace HB := Aside0.mk (below_step (q31_0) hb); have GE201 := GW201; clear hb hbox hg; obtain ⟨hcz5_0, hcz5_1, hfz5_0, hfz5_1⟩ := bf2_ BK201))
  (go_ret); (exact ⟨by first | rfl | (simp [*, errW_none, errW_some] <;> rfl), q31_1⟩)
 ·rw [if_neg c3] at H
  (have c3b0 : (Op.bytesLess a1.toList a0_0.toList) = false := by simpa using c3); (clear c3); (replace H := Option.bind_eq_some_iff.mp H); (obtain ⟨t202, A60, H⟩ := H); (replace H : (some t202) = some r := H); (have A6 := Aside0.mk A60); (clear A60); (obtain rfl := Option.some.inj H); (go_enter Try.func134, Try.ntmps134)
  go_wp2_with (first | ((with_reducible refine gate_dst (N := 2) rfl ?_); refine box_event ?hg (N := 2) ?hd (cs := #[.string a0_0, .string a0_1]) (t := 48) ?hr ?_; (case hd => rfl); (case hg => rfl); (case hr => first | (go_simp; done) | (go_simp; rfl)); intro gb201 hg w7 hbox hb; have BK201 := Aside0.mk (hbox); have GW201 := Aside0.mk (hs_ hg (q31_0)); replace HB := Aside0.mk (below_step (q31_0) hb); have GE201 := GW201; clear hb hbox hg; obtain ⟨hcz8_0, hcz8_1, hfz8_0, hfz8_1⟩ := bf2_ BK201) | (go_at_call 137; (with_reducible refine (key_ahead.calls a1 a0_1 t202 _ A6.out).mono ?_); rintro e w' ⟨rfl, ⟨nd, rfl⟩⟩))
  (go_ret); (exact ⟨by first | rfl | (simp [*, errW_none, errW_some] <;> rfl), q31_1⟩)
theorem q32_0 {P : Prop} (h : P := by repeat (first | exact Drawn0.refl _ | apply Drawn0.step)) : P := h
/-! ### key_Before: function 136 -/
def key_Before.f (a0 : ByteArray) (a1 : ByteArray) : Option (Bool) := if a0.toList = ([] : List UInt8) then (some false) else (if a1.toList = ([] : List UInt8) then (some (a1.toList == ([] : List UInt8))) else (some (Op.bytesLess a0.toList a1.toList)))
set_option maxHeartbeats 8000000 in
set_option maxRecDepth 100000 in
theorem key_Before.calls (a0 : ByteArray) (a1 : ByteArray) (r : Bool) (w : World) (h : key_Before.f a0 a1 = some r) :
  Calls Try.prog 136 #[.string a0, .string a1] w fun e w' => e = .returned (.bool r) ∧ Drawn0 w w' := by
 (have H : (if a0.toList = ([] : List UInt8) then (some false) else (if a1.toList = ([] : List UInt8) then (some (a1.toList == ([] : List UInt8))) else (some (Op.bytesLess a0.toList a1.toList)))) = some r := h); (clear h); (by_cases c3 : a0.toList = ([] : List UInt8))
 ·rw [if_pos c3] at H
  (have c3b0 : (a0.toList == ([] : List UInt8)) = true := beq_iff_eq.mpr c3); (have c3b1 : (a0.toList != ([] : List UInt8)) = false := bne_eq_false_iff_eq.mpr c3); (clear c3); (obtain rfl := Option.some.inj H); (go_enter Try.func136, Try.ntmps136); (go_wp2); (go_ret); (exact ⟨by first | rfl | (simp; done) | (simp [*]; done), q32_0⟩)
 ·rw [if_neg c3] at H
  (have c3b0 : (a0.toList == ([] : List UInt8)) = false := beq_eq_false_iff_ne.mpr c3); (have c3b1 : (a0.toList != ([] : List UInt8)) = true := bne_iff_ne.mpr c3); (by_cases c4 : a1.toList = ([] : List UInt8))
  ·rw [if_pos c4] at H
   (have c4b0 : (a1.toList == ([] : List UInt8)) = true := beq_iff_eq.mpr c4); (have c4b1 : (a1.toList != ([] : List UInt8)) = false := bne_eq_false_iff_eq.mpr c4); (clear c4); (obtain rfl := Option.some.inj H); (go_enter Try.func136, Try.ntmps136); (go_wp2); (go_ret); (exact ⟨by first | rfl | (simp; done) | (simp [*]; done), q32_0⟩)
  ·rw [if_neg c4] at H
   (have c4b0 : (a1.toList == ([] : List UInt8)) = false := beq_eq_false_iff_ne.mpr c4); (have c4b1 : (a1.toList != ([] : List UInt8)) = true := bne_iff_ne.mpr c4); (obtain rfl := Option.some.inj H); (go_enter Try.func136, Try.ntmps136); (go_wp2); (go_ret); (exact ⟨by first | rfl | (simp; done) | (simp [*]; done), q32_0⟩)
theorem q33_0 {P : Prop} (h : P := by repeat (first | exact Drawn0.refl _ | apply Drawn0.step)) : P := h
/-! ### key_First: function 159 -/
def key_First.f (a0 : ByteArray) (a1 : ByteArray) : Option (ByteArray) := (key_Before.f a1 a0).bind fun t203 => (if t203 = true then (some a1) else (some a0))
set_option maxHeartbeats 8000000 in
set_option maxRecDepth 100000 in
theorem key_First.calls (a0 : ByteArray) (a1 : ByteArray) (r : ByteArray) (w : World) (h : key_First.f a0 a1 = some r) :
  Calls Try.prog 159 #[.string a0, .string a1] w fun e w' => e = .returned (.string r) ∧ Drawn0 w w' := by
 (have H : ((key_Before.f a1 a0).bind fun t203 => (if t203 = true then (some a1) else (some a0))) = some r := h); (clear h); (replace H := Option.bind_eq_some_iff.mp H); (obtain ⟨t203, A30, H⟩ := H); (replace H : (if t203 = true then (some a1) else (some a0)) = some r := H); (have A3 := Aside0.mk A30); (clear A30); (by_cases c4 : t203 = true)
 ·subst c4
  (have H1 : (some a1) = some r := by rw [if_pos rfl] at H; exact H); (clear H); (have H := H1); (clear H1); (obtain rfl := Option.some.inj H); (go_enter Try.func159, Try.ntmps159); (go_wp2_with (first | ((with_reducible refine gate_callee (f := 136) rfl ?_); refine goesL_ (some 7) rfl rfl Try.func136 (by kernel_rfl) rfl #[.string a1, .string a0] rfl (by (try simp only [List.map_toArray, List.map_cons, List.map_nil]); first | done | rfl) ?_; (with_reducible refine (key_Before.calls a1 a0 true _ A3.out).mono ?_); rintro e w' ⟨rfl, ⟨nd, rfl⟩⟩; refine ⟨_, rfl, ?_⟩))); (go_ret); (exact ⟨by first | rfl | (simp; done) | (simp [*]; done), q33_0⟩)
 ·replace c4 := Bool.eq_false_iff.mpr c4
  (subst c4); (have H1 : (some a0) = some r := by rw [if_neg (show ¬ (false = true) by decide)] at H; exact H); (clear H); (have H := H1); (clear H1); (obtain rfl := Option.some.inj H); (go_enter Try.func159, Try.ntmps159); (go_wp2_with (first | ((with_reducible refine gate_callee (f := 136) rfl ?_); refine goesL_ (some 7) rfl rfl Try.func136 (by kernel_rfl) rfl #[.string a1, .string a0] rfl (by (try simp only [List.map_toArray, List.map_cons, List.map_nil]); first | done | rfl) ?_; (with_reducible refine (key_Before.calls a1 a0 false _ A3.out).mono ?_); rintro e w' ⟨rfl, ⟨nd, rfl⟩⟩; refine ⟨_, rfl, ?_⟩))); (go_ret); (exact ⟨by first | rfl | (simp; done) | (simp [*]; done), q33_0⟩)
theorem q40_0 {P : Prop} (h : P := by (with_reducible repeat first | exact HB.out | apply y1_ | apply y2_ | apply y3_) <;> exact HB.out) : P := h
/-! ### msg_Size: function 108 -/
def msg_Size.f (a0_0 : Int) (a0_1 : Int) (a0_2 : ByteArray) (a0_3 : ByteArray) (a0_4 : ByteArray) (a0_5 : Int) : Option (Int) := some (wrap64 ((wrap64 ((wrap64 (16 + (a0_2.size : Int))) + (a0_3.size : Int))) + (a0_4.size : Int)))
set_option maxHeartbeats 8000000 in
set_option maxRecDepth 100000 in
theorem msg_Size.calls (a0_0 : Int) (a0_1 : Int) (a0_2 : ByteArray) (a0_3 : ByteArray) (a0_4 : ByteArray) (a0_5 : Int) (r : Int) (w : World) (h : msg_Size.f a0_0 a0_1 a0_2 a0_3 a0_4 a0_5 = some r) :
  Calls Try.prog 108 #[.agg #[.int .u8 a0_0, .int .i64 a0_1, .string a0_2, .string a0_3, .string a0_4, .int .u64 a0_5]] w fun e w' => e = .returned (.int .i64 r) ∧ Below w.heap.size w w' := by
 (have hu46 := Try.underlying46); (have HB := Aside0.mk (Below.refl w.heap.size w)); (have H : (some (wrap64 ((wrap64 ((wrap64 (16 + (a0_2.size : Int))) + (a0_3.size : Int))) + (a0_4.size : Int)))) = some r := h); (clear h); (obtain rfl := Option.some.inj H); (go_enter Try.func108, Try.ntmps108)
 go_wp2_with (first | ((with_reducible refine gate_dst (N := 1) rfl ?_); refine box_event ?hg (N := 1) ?hd (cs := #[.int .u8 a0_0, .int .i64 a0_1, .string a0_2, .string a0_3, .string a0_4, .int .u64 a0_5]) (t := 46) ?hr ?_; (case hd => rfl); (case hg => rfl); (case hr => first | (go_simp; done) | (go_simp; rfl)); intro gb285 hg w2 hbox hb; have BK285 := Aside0.mk (hbox); have GW285 := Aside0.mk (hs_ hg (q40_0)); replace HB := Aside0.mk (below_step (q40_0) hb); have GE285 := GW285; clear hb hbox hg; obtain ⟨hcz3_0, hcz3_1, hcz3_2, hcz3_3, hcz3_4, hcz3_5, hfz3_0, hfz3_1, hfz3_2, hfz3_3, hfz3_4, hfz3_5⟩ := bf6_ BK285))
 (go_ret); (exact ⟨by first | rfl | (simp [*, errW_none, errW_some] <;> rfl), by (with_reducible repeat first | exact HB.out | apply y1_ | apply y2_ | apply y3_ | refine y4_ ?_ GE285.out) <;> exact HB.out⟩)
theorem q41_0 {P : Prop} (h : P := by (with_reducible repeat first | exact HB.out | apply y1_ | apply y2_ | apply y3_) <;> exact HB.out) : P := h
theorem q41_1 {P : Prop} (h : P := by (with_reducible repeat first | exact HB.out | apply y1_ | apply y2_ | apply y3_ | refine y4_ ?_ GE287.out) <;> exact HB.out) : P := h
/-! ### buffer_Bytes: function 54 -/
def buffer_Bytes.l0 : Nat → Int → List (S46) → Int → Int → Option (Int)
 | 0, _, _, _, _ => none
 | k + 1, x3, x6, x7, x8 => if x8 < x7 then (if 0 ≤ x8 then (if x8 < (x6.length : Int) then ((msg_Size.f ((rd_T46 x6 x8).f0) ((rd_T46 x6 x8).f1) ((rd_T46 x6 x8).f2) ((rd_T46 x6 x8).f3) ((rd_T46 x6 x8).f4) ((rd_T46 x6 x8).f5)).bind fun t288 => (buffer_Bytes.l0 k (wrap64 (x3 + t288)) x6 x7 (wrap64 (x8 + 1)))) else (none)) else (none)) else (some x3)
def buffer_Bytes.f (k : Nat) (l0 : List (S46)) : Option (Int) := buffer_Bytes.l0 k 0 l0 (l0.length : Int) 0
theorem buffer_Bytes.mono_l : ∀ k, (∀ y0 y1 y2 y3, LeO (buffer_Bytes.l0 k y0 y1 y2 y3) (buffer_Bytes.l0 (k + 1) y0 y1 y2 y3))
 | 0 => fun _ _ _ _ r h => by simp [buffer_Bytes.l0] at h
 | k + 1 => by
  have ih0 := buffer_Bytes.mono_l k
  ·intro y0 y1 y2 y3
   unfold buffer_Bytes.l0
   repeat' (with_reducible first | exact ih0 _ _ _ _ | exact LeO.refl _ | exact LeO.none _ | refine LeO.ite ?_ ?_ | refine LeO.bind ?_ (fun _ => ?_))
theorem buffer_Bytes.mono : ∀ a0 k, LeO (buffer_Bytes.f k a0) (buffer_Bytes.f (k + 1) a0) := by
 (intro a0 k); (have ih0 := buffer_Bytes.mono_l k); (unfold buffer_Bytes.f)
 repeat' (with_reducible first | exact ih0 _ _ _ _ | exact LeO.refl _ | exact LeO.none _ | refine LeO.ite ?_ ?_ | refine LeO.bind ?_ (fun _ => ?_))
set_option maxHeartbeats 8000000 in
set_option maxRecDepth 100000 in
theorem buffer_Bytes.calls (k : Nat) (A0 : Option Addr) (c0 : Nat) (l0 : List (S46)) (r : Int) (w : World) (hr0 : Kd.C k46 w A0 l0.length l0) (hc0 : l0.length ≤ c0) (h : buffer_Bytes.f k l0 = some r) :
  Calls Try.prog 54 #[.slice A0 l0.length c0] w fun e w' => e = .returned (.int .i64 r) ∧ Below w.heap.size w w' := by
 (have hu46 := Try.underlying46); (have HR0 := Aside0.mk hr0); (have HC0 := Aside0.mk hc0); (clear hr0 hc0); (have HB := Aside0.mk (Below.refl w.heap.size w)); (have H : (buffer_Bytes.l0 k 0 l0 (l0.length : Int) 0) = some r := h); (clear h); (have H' := Aside0.mk H); (clear H); (go_enter Try.func54, Try.ntmps54); (go_wp2); (go_loopg [3, 8] k (fun kq v3 v8 w' => ∃ (x3_1 : Int) (x8_1 : Int), v3 = .int .i64 x3_1 ∧ v8 = .int .i64 x8_1 ∧ Aside0 (buffer_Bytes.l0 kq x3_1 l0 (l0.length : Int) x8_1 = some r) ∧ Aside0 (kq ≤ k) ∧ Aside0 (Below w.heap.size w w')))
 case atStart => exact ⟨(0), (0), (by first | rfl | (simp; done) | (simp [*]; done)), (by first | rfl | (simp; done) | (simp [*]; done)), H', ⟨Nat.le_refl _⟩, ⟨q41_0⟩⟩
 case round =>
  (clear H'); (obtain ⟨x3_1, x8_1, rfl, rfl, HA, HK1, HB⟩ := hrel)
  cases gk with
  | zero => exact absurd HA.out (by simp [buffer_Bytes.l0])
  | succ k1 =>
   (have H := HA.out); (clear HA); (simp only [buffer_Bytes.l0] at H); (by_cases c2 : x8_1 < (l0.length : Int))
   ·rw [if_pos c2] at H
    (have c2b0 : decide (x8_1 < (l0.length : Int)) = true := decide_eq_true c2); (clear c2); (by_cases c3 : 0 ≤ x8_1)
    ·rw [if_pos c3] at H
     (have c3b0 : decide (0 ≤ x8_1) = true := decide_eq_true c3); (clear c3); (by_cases c4 : x8_1 < (l0.length : Int))
     ·rw [if_pos c4] at H
      (have c4b0 : decide (x8_1 < (l0.length : Int)) = true := decide_eq_true c4); (clear c4); (replace H := Option.bind_eq_some_iff.mp H); (obtain ⟨t288, A50, H⟩ := H); (replace H : (buffer_Bytes.l0 k1 (wrap64 (x3_1 + t288)) l0 (l0.length : Int) (wrap64 (x8_1 + 1))) = some r := H); (have A5 := Aside0.mk A50); (clear A50); (have H' := Aside0.mk H); (clear H); (have p286 : 0 ≤ (x8_1 : Int) := of_decide_eq_true (by first | (with_reducible assumption) | assumption)); (have q286 : x8_1 < (l0.length : Int) := of_decide_eq_true (by first | (with_reducible assumption) | assumption)); (obtain ⟨ad286, e286, hx286_0, hx286_1, hx286_2, hx286_3, hx286_4, hx286_5⟩ := at_T46 HR0.out x8_1 p286 q286); (cases e286); (replace hx286_0 := c1_ HB hx286_0); (replace hx286_1 := c1_ HB hx286_1); (replace hx286_2 := c1_ HB hx286_2); (replace hx286_3 := c1_ HB hx286_3); (replace hx286_4 := c1_ HB hx286_4)
      (replace hx286_5 := c1_ HB hx286_5); (replace p286 := eq_true p286); (replace q286 := eq_true q286)
      go_wp2_with (first | ((with_reducible refine gate_dst (N := 5) rfl ?_); refine box_event ?hg (N := 5) ?hd (cs := #[.int .u8 0, .int .i64 0, .string ⟨#[]⟩, .string ⟨#[]⟩, .string ⟨#[]⟩, .int .u64 0]) (t := 46) ?hr ?_; (case hd => rfl); (case hg => rfl); (case hr => first | (go_simp; done) | (go_simp; rfl)); intro gb287 hg w6 hbox hb; have BK287 := Aside0.mk (hbox); have GW287 := Aside0.mk (hs_ hg (q41_0)); replace HB := Aside0.mk (below_step (q41_0) hb); have GE287 := GW287; clear hb hbox hg; obtain ⟨hcz7_0, hcz7_1, hcz7_2, hcz7_3, hcz7_4, hcz7_5, hfz7_0, hfz7_1, hfz7_2, hfz7_3, hfz7_4, hfz7_5⟩ := bf6_ BK287) | ((with_reducible refine gate_callee (f := 108) rfl ?_); refine goesL_ (some 14) rfl rfl Try.func108 (by kernel_rfl) rfl #[.agg #[.int .u8 ((rd_T46 l0 x8_1).f0), .int .i64 ((rd_T46 l0 x8_1).f1), .string ((rd_T46 l0 x8_1).f2), .string ((rd_T46 l0 x8_1).f3), .string ((rd_T46 l0 x8_1).f4), .int .u64 ((rd_T46 l0 x8_1).f5)]] rfl (by (try simp only [List.map_toArray, List.map_cons, List.map_nil]); first | done | rfl) ?_; (with_reducible refine (msg_Size.calls ((rd_T46 l0 x8_1).f0) ((rd_T46 l0 x8_1).f1) ((rd_T46 l0 x8_1).f2) ((rd_T46 l0 x8_1).f3) ((rd_T46 l0 x8_1).f4) ((rd_T46 l0 x8_1).f5) t288 _ A5.out).mono ?_); rintro e w8 ⟨rfl, hb⟩; refine ⟨_, rfl, ?_⟩; replace BK287 := Aside0.mk (blk_below (g := gb287) (o := .cells #[.int .u8 ((rd_T46 l0 x8_1).f0), .int .i64 ((rd_T46 l0 x8_1).f1), .string ((rd_T46 l0 x8_1).f2), .string ((rd_T46 l0 x8_1).f3), .string ((rd_T46 l0 x8_1).f4), .int .u64 ((rd_T46 l0 x8_1).f5)] 46 (0, 0)) (by (with_reducible repeat first | apply z1_ | apply z2_ | apply z3_); refine blk_put (cs := #[.int .u8 ((rd_T46 l0 x8_1).f0), .int .i64 ((rd_T46 l0 x8_1).f1), .string ((rd_T46 l0 x8_1).f2), .string ((rd_T46 l0 x8_1).f3), .string ((rd_T46 l0 x8_1).f4), .int .u64 0]) ?_ 5 _ rfl; (with_reducible repeat first | apply z1_ | apply z2_ | apply z3_); refine blk_put (cs := #[.int .u8 ((rd_T46 l0 x8_1).f0), .int .i64 ((rd_T46 l0 x8_1).f1), .string ((rd_T46 l0 x8_1).f2), .string ((rd_T46 l0 x8_1).f3), .string ⟨#[]⟩, .int .u64 0]) ?_ 4 _ rfl; (with_reducible repeat first | apply z1_ | apply z2_ | apply z3_); refine blk_put (cs := #[.int .u8 ((rd_T46 l0 x8_1).f0), .int .i64 ((rd_T46 l0 x8_1).f1), .string ((rd_T46 l0 x8_1).f2), .string ⟨#[]⟩, .string ⟨#[]⟩, .int .u64 0]) ?_ 3 _ rfl; (with_reducible repeat first | apply z1_ | apply z2_ | apply z3_); refine blk_put (cs := #[.int .u8 ((rd_T46 l0 x8_1).f0), .int .i64 ((rd_T46 l0 x8_1).f1), .string ⟨#[]⟩, .string ⟨#[]⟩, .string ⟨#[]⟩, .int .u64 0]) ?_ 2 _ rfl; (with_reducible repeat first | apply z1_ | apply z2_ | apply z3_); refine blk_put (cs := #[.int .u8 ((rd_T46 l0 x8_1).f0), .int .i64 0, .string ⟨#[]⟩, .string ⟨#[]⟩, .string ⟨#[]⟩, .int .u64 0]) ?_ 1 _ rfl; (with_reducible repeat first | apply z1_ | apply z2_ | apply z3_); refine blk_put (cs := #[.int .u8 0, .int .i64 0, .string ⟨#[]⟩, .string ⟨#[]⟩, .string ⟨#[]⟩, .int .u64 0]) ?_ 0 _ rfl; (with_reducible repeat first | apply z1_ | apply z2_ | apply z3_); exact BK287.out) hb); replace HB := Aside0.mk (below_step (q41_1) hb); (try clear hb); (try clear hb2); (try clear hk); (try clear hi)))
      go_roundg k1
      case measure => have := HK1.out; omega
      case rel => exact ⟨(wrap64 (x3_1 + t288)), (wrap64 (x8_1 + 1)), (by first | rfl | (simp; done) | (simp [*]; done)), (by first | rfl | (simp; done) | (simp [*]; done)), H', ⟨by have := HK1.out; omega⟩, ⟨q41_1⟩⟩
     ·rw [if_neg c4] at H
      exact absurd H (by simp)
    ·rw [if_neg c3] at H
     exact absurd H (by simp)
   ·rw [if_neg c2] at H
    (have c2b0 : decide (x8_1 < (l0.length : Int)) = false := decide_eq_false c2); (clear c2); (obtain rfl := Option.some.inj H); (go_wp2); (go_ret); (exact ⟨by first | rfl | (simp [*, errW_none, errW_some] <;> rfl), q41_0⟩)
theorem q49_0 {P : Prop} (h : P := by (with_reducible repeat first | exact HB.out | apply y1_ | apply y2_ | apply y3_) <;> exact HB.out) : P := h
theorem q49_1 {P : Prop} (h : P := by (with_reducible repeat first | exact HB.out | apply y1_ | apply y2_ | apply y3_ | refine y4_ ?_ GE398.out) <;> exact HB.out) : P := h
/-! ### catchmentref02_Holds: function 47 -/
def catchmentref02_Holds.f (a0_0 : ByteArray) (a0_1 : ByteArray) (a1 : ByteArray) : Option (Bool) := if ((Op.bytesLess a1.toList a0_0.toList) = true) then (some false) else (if a0_1.toList = ([] : List UInt8) then (some true) else (some (Op.bytesLess a1.toList a0_1.toList)))
set_option maxHeartbeats 8000000 in
set_option maxRecDepth 100000 in
theorem catchmentref02_Holds.calls (a0_0 : ByteArray) (a0_1 : ByteArray) (a1 : ByteArray) (r : Bool) (w : World) (h : catchmentref02_Holds.f a0_0 a0_1 a1 = some r) :
  Calls Try.prog 47 #[.agg #[.string a0_0, .string a0_1], .string a1] w fun e w' => e = .returned (.bool r) ∧ Below w.heap.size w w' := by
 (have hu48 := Try.underlying48); (have HB := Aside0.mk (Below.refl w.heap.size w)); (have H : (if ((Op.bytesLess a1.toList a0_0.toList) = true) then (some false) else (if a0_1.toList = ([] : List UInt8) then (some true) else (some (Op.bytesLess a1.toList a0_1.toList)))) = some r := h); (clear h); (by_cases c3 : ((Op.bytesLess a1.toList a0_0.toList) = true))
 ·rw [if_pos c3] at H
  (have c3b0 : (Op.bytesLess a1.toList a0_0.toList) = true := c3); (clear c3); (obtain rfl := Option.some.inj H); (go_enter Try.func47, Try.ntmps47)
  go_wp2_with (first | ((with_reducible refine gate_dst (N := 2) rfl ?_); refine box_event ?hg (N := 2) ?hd (cs := #[.string a0_0, .string a0_1]) (t := 48) ?hr ?_; (case hd => rfl); (case hg => rfl); (case hr => first | (go_simp; done) | (go_simp; rfl)); intro gb398 hg w4 hbox hb; have BK398 := Aside0.mk (hbox); have GW398 := Aside0.mk (hs_ hg (q49_0)); replace HB := Aside0.mk (below_step (q49_0) hb); have GE398 := GW398; clear hb hbox hg; obtain ⟨hcz5_0, hcz5_1, hfz5_0, hfz5_1⟩ := bf2_ BK398))
  (go_ret); (exact ⟨by first | rfl | (simp [*, errW_none, errW_some] <;> rfl), q49_1⟩)
 ·rw [if_neg c3] at H
  (have c3b0 : (Op.bytesLess a1.toList a0_0.toList) = false := by simpa using c3); (clear c3); (by_cases c6 : a0_1.toList = ([] : List UInt8))
  ·rw [if_pos c6] at H
   (have c6b0 : (a0_1.toList == ([] : List UInt8)) = true := beq_iff_eq.mpr c6); (have c6b1 : (a0_1.toList != ([] : List UInt8)) = false := bne_eq_false_iff_eq.mpr c6); (clear c6); (obtain rfl := Option.some.inj H); (go_enter Try.func47, Try.ntmps47)
   go_wp2_with (first | ((with_reducible refine gate_dst (N := 2) rfl ?_); refine box_event ?hg (N := 2) ?hd (cs := #[.string a0_0, .string a0_1]) (t := 48) ?hr ?_; (case hd => rfl); (case hg => rfl); (case hr => first | (go_simp; done) | (go_simp; rfl)); intro gb398 hg w7 hbox hb; have BK398 := Aside0.mk (hbox); have GW398 := Aside0.mk (hs_ hg (q49_0)); replace HB := Aside0.mk (below_step (q49_0) hb); have GE398 := GW398; clear hb hbox hg; obtain ⟨hcz8_0, hcz8_1, hfz8_0, hfz8_1⟩ := bf2_ BK398))
   (go_ret); (exact ⟨by first | rfl | (simp [*, errW_none, errW_some] <;> rfl), q49_1⟩)
  ·rw [if_neg c6] at H
   (have c6b0 : (a0_1.toList == ([] : List UInt8)) = false := beq_eq_false_iff_ne.mpr c6); (have c6b1 : (a0_1.toList != ([] : List UInt8)) = true := bne_iff_ne.mpr c6); (obtain rfl := Option.some.inj H); (go_enter Try.func47, Try.ntmps47)
   go_wp2_with (first | ((with_reducible refine gate_dst (N := 2) rfl ?_); refine box_event ?hg (N := 2) ?hd (cs := #[.string a0_0, .string a0_1]) (t := 48) ?hr ?_; (case hd => rfl); (case hg => rfl); (case hr => first | (go_simp; done) | (go_simp; rfl)); intro gb398 hg w9 hbox hb; have BK398 := Aside0.mk (hbox); have GW398 := Aside0.mk (hs_ hg (q49_0)); replace HB := Aside0.mk (below_step (q49_0) hb); have GE398 := GW398; clear hb hbox hg; obtain ⟨hcz10_0, hcz10_1, hfz10_0, hfz10_1⟩ := bf2_ BK398))
   (go_ret); (exact ⟨by first | rfl | (simp [*, errW_none, errW_some] <;> rfl), q49_1⟩)
theorem q57_0 {P : Prop} (h : P := by (with_reducible repeat first | exact HB.out | apply y1_ | apply y2_ | apply y3_) <;> exact HB.out) : P := h
/-! ### catchmentref03_Put: function 167 -/
def catchmentref03_Put.l0 : Nat → Int → ByteArray → Int → Option (ByteArray)
 | 0, _, _, _ => none
 | k + 1, x0, x3, x4 => if x4 < 8 then ((some (([(Int.tmod x0 256) % 256] : List Int) : List Int)).bind fun y473 => (if (strOfNums y473).size + x3.size ≤ 9223372036854775807 then (catchmentref03_Put.l0 k (IntKind.u64.wrap (Int.tdiv x0 256)) ((strOfNums y473) ++ x3) (wrap64 (x4 + 1))) else (none))) else (some x3)
def catchmentref03_Put.f (k : Nat) (a0 : Int) : Option (ByteArray) := catchmentref03_Put.l0 k a0 (⟨#[]⟩ : ByteArray) 0
theorem catchmentref03_Put.mono_l : ∀ k, (∀ y0 y1 y2, LeO (catchmentref03_Put.l0 k y0 y1 y2) (catchmentref03_Put.l0 (k + 1) y0 y1 y2))
 | 0 => fun _ _ _ r h => by simp [catchmentref03_Put.l0] at h
 | k + 1 => by
  have ih0 := catchmentref03_Put.mono_l k
  ·intro y0 y1 y2
   unfold catchmentref03_Put.l0
   repeat' (with_reducible first | exact ih0 _ _ _ | exact LeO.refl _ | exact LeO.none _ | refine LeO.ite ?_ ?_ | refine LeO.bind ?_ (fun _ => ?_))
theorem catchmentref03_Put.mono : ∀ a0 k, LeO (catchmentref03_Put.f k a0) (catchmentref03_Put.f (k + 1) a0) := by
 (intro a0 k); (have ih0 := catchmentref03_Put.mono_l k); (unfold catchmentref03_Put.f)
 repeat' (with_reducible first | exact ih0 _ _ _ | exact LeO.refl _ | exact LeO.none _ | refine LeO.ite ?_ ?_ | refine LeO.bind ?_ (fun _ => ?_))
set_option maxHeartbeats 8000000 in
set_option maxRecDepth 100000 in
theorem catchmentref03_Put.calls (k : Nat) (a0 : Int) (r : ByteArray) (w : World) (h : catchmentref03_Put.f k a0 = some r) :
  Calls Try.prog 167 #[.int .u64 a0] w fun e w' => e = .returned (.string r) ∧ Below w.heap.size w w' := by
 (have HB := Aside0.mk (Below.refl w.heap.size w)); (have H : (catchmentref03_Put.l0 k a0 (⟨#[]⟩ : ByteArray) 0) = some r := h); (clear h); (have H' := Aside0.mk H); (clear H); (go_enter Try.func167, Try.ntmps167); (go_wp2); (go_loopg [0, 3, 4] k (fun kq v0 v3 v4 w' => ∃ (x0_1 : Int) (x3_1 : ByteArray) (x4_1 : Int), v0 = .int .u64 x0_1 ∧ v3 = .string x3_1 ∧ v4 = .int .i64 x4_1 ∧ Aside0 (catchmentref03_Put.l0 kq x0_1 x3_1 x4_1 = some r) ∧ Aside0 (kq ≤ k) ∧ Aside0 (Below w.heap.size w w')))
 case atStart => exact ⟨(a0), ((⟨#[]⟩ : ByteArray)), (0), (by first | rfl | (simp; done) | (simp [*]; done)), (by first | rfl | (simp; done) | (simp [*]; done)), (by first | rfl | (simp; done) | (simp [*]; done)), H', ⟨Nat.le_refl _⟩, ⟨q57_0⟩⟩
 case round =>
  (clear H'); (try clear c1); (obtain ⟨x0_1, x3_1, x4_1, rfl, rfl, rfl, HA, HK1, HB⟩ := hrel)
  cases gk with
  | zero => exact absurd HA.out (by simp [catchmentref03_Put.l0])
  | succ k1 =>
   (have H := HA.out); (clear HA); (simp only [catchmentref03_Put.l0] at H); (by_cases c2 : x4_1 < 8)
   ·rw [if_pos c2] at H
    (have c2b0 : decide (x4_1 < 8) = true := decide_eq_true c2); (clear c2); (obtain ⟨y473, hy473⟩ : ∃ y_ : List Int, y_ = (([(Int.tmod x0_1 256) % 256] : List Int)) := ⟨_, rfl⟩); (replace H : (if (strOfNums y473).size + x3_1.size ≤ 9223372036854775807 then (catchmentref03_Put.l0 k1 (IntKind.u64.wrap (Int.tdiv x0_1 256)) ((strOfNums y473) ++ x3_1) (wrap64 (x4_1 + 1))) else (none)) = some r := by first | (rw [hy473]; with_reducible exact H) | (have H2_ := (Option.bind_some _ _).symm.trans H; rw [hy473]; with_reducible exact H2_) | (have H2_ := (Option.bind_some _ _).symm.trans H; with_reducible exact H2_) | with_reducible exact H | (rw [hy473]; exact H) | exact H); (have Ny473 := Aside0.mk hy473); (clear hy473); (by_cases c3 : (strOfNums y473).size + x3_1.size ≤ 9223372036854775807)
    ·rw [if_pos c3] at H
     (have c3b0 := eq_true c3); (have c3b1 : decide ((strOfNums y473).size + x3_1.size ≤ 9223372036854775807) = true := decide_eq_true c3); (try have c3b2 : (9223372036854775807 < (strOfNums y473).size + x3_1.size) = False := eq_false (Nat.not_lt.2 c3)); (have H' := Aside0.mk H); (clear H)
     go_wp2_with (first | ((with_reducible refine gate_dst (N := 12) rfl ?_); refine Kd.R_lit (Kd.int .u8) _ 5 ?hg (N := 12) ?hd (xs := ([(Int.tmod x0_1 256) % 256] : List Int)) (inner := [.int .u8 ((Int.tmod x0_1 256) % 256)]) (ok := fun _ => True) (okp := fun _ => True) ?hr ?hp (fun _ hk => hk) trivial (Below.refl _ _) (Nat.le_refl _) (by simp) ?_; (case hd => rfl); (case hg => rfl); (case hr => first | (go_simp; done) | (go_simp; rfl)); (case hp => exact (Reps.one (show Kd.M (Kd.int .u8) _ _ _ ((Int.tmod x0_1 256) % 256) [.int .u8 ((Int.tmod x0_1 256) % 256)] from rfl) (Reps.none _ _))); intro v474 w4 ho5 hb hg_ hnew_; clear hg_ hnew_; (first | rw [← Ny473.out] at ho5 | (simp only [Int.reduceToNat] at ho5; rw [← Ny473.out] at ho5)); have HO475 := Aside0.mk (Kd.R_lower ho5 (below_size (q57_0))); replace HB := Aside0.mk (below_step (q57_0) hb); clear hb ho5; have hcv6 := own_string (P := Try.prog) Try.underlying114 Try.underlying5 Try.underlying9 (Kd.own_of_R HO475.out)))
     go_roundg k1
     case measure => have := HK1.out; omega
     case rel => exact ⟨(IntKind.u64.wrap (Int.tdiv x0_1 256)), ((strOfNums y473) ++ x3_1), (wrap64 (x4_1 + 1)), (by first | rfl | (simp; done) | (simp [*]; done)), (by first | rfl | (simp; done) | (simp [*]; done)), (by first | rfl | (simp; done) | (simp [*]; done)), H', ⟨by have := HK1.out; omega⟩, ⟨q57_0⟩⟩
    ·rw [if_neg c3] at H
     exact absurd H (by simp)
   ·rw [if_neg c2] at H
    (have c2b0 : decide (x4_1 < 8) = false := decide_eq_false c2); (clear c2); (obtain rfl := Option.some.inj H); (go_wp2); (go_ret); (exact ⟨by first | rfl | (simp [*, errW_none, errW_some] <;> rfl), q57_0⟩)
theorem q58_0 {P : Prop} (h : P := by repeat (first | exact Drawn0.refl _ | apply Drawn0.step)) : P := h
/-! ### catchmentref03_Take: function 168 -/
def catchmentref03_Take.l0 : Nat → ByteArray → Int → Int → Option (Int × Bool)
 | 0, _, _, _ => none
 | k + 1, x0, x4, x5 => if x5 < 8 then (if 0 ≤ x5 then (if x5 < (x0.size : Int) then (catchmentref03_Take.l0 k x0 (IntKind.u64.wrap ((IntKind.u64.wrap (x4 * 256)) + (IntKind.u64.wrap (bt x0 x5)))) (wrap64 (x5 + 1))) else (none)) else (none)) else (some (x4, true))
def catchmentref03_Take.f (k : Nat) (a0 : ByteArray) : Option (Int × Bool) := if (a0.size : Int) = 8 then (catchmentref03_Take.l0 k a0 0 0) else (some (0, false))
theorem catchmentref03_Take.mono_l : ∀ k, (∀ y0 y1 y2, LeO (catchmentref03_Take.l0 k y0 y1 y2) (catchmentref03_Take.l0 (k + 1) y0 y1 y2))
 | 0 => fun _ _ _ r h => by simp [catchmentref03_Take.l0] at h
 | k + 1 => by
  have ih0 := catchmentref03_Take.mono_l k
  ·intro y0 y1 y2
   unfold catchmentref03_Take.l0
   repeat' (with_reducible first | exact ih0 _ _ _ | exact LeO.refl _ | exact LeO.none _ | refine LeO.ite ?_ ?_ | refine LeO.bind ?_ (fun _ => ?_))
theorem catchmentref03_Take.mono : ∀ a0 k, LeO (catchmentref03_Take.f k a0) (catchmentref03_Take.f (k + 1) a0) := by
 (intro a0 k); (have ih0 := catchmentref03_Take.mono_l k); (unfold catchmentref03_Take.f)
 repeat' (with_reducible first | exact ih0 _ _ _ | exact LeO.refl _ | exact LeO.none _ | refine LeO.ite ?_ ?_ | refine LeO.bind ?_ (fun _ => ?_))
set_option maxHeartbeats 8000000 in
set_option maxRecDepth 100000 in
theorem catchmentref03_Take.calls (k : Nat) (a0 : ByteArray) (r1 : Int) (r2 : Bool) (w : World) (h : catchmentref03_Take.f k a0 = some (r1, r2)) :
  Calls Try.prog 168 #[.string a0] w fun e w' => e = .returned (.tuple #[.int .u64 r1, .bool r2]) ∧ Drawn0 w w' := by
 (have H : (if (a0.size : Int) = 8 then (catchmentref03_Take.l0 k a0 0 0) else (some (0, false))) = some (r1, r2) := h); (clear h); (by_cases c2 : (a0.size : Int) = 8)
 ·rw [if_pos c2] at H
  (have c2b0 : ((a0.size : Int) == 8) = true := beq_iff_eq.mpr c2); (have c2b1 : ((a0.size : Int) != 8) = false := bne_eq_false_iff_eq.mpr c2); (clear c2); (have H' := Aside0.mk H); (clear H); (go_enter Try.func168, Try.ntmps168); (go_wp2); (go_loopg [4, 5] k (fun kq v4 v5 w' => ∃ (x4_1 : Int) (x5_1 : Int), v4 = .int .u64 x4_1 ∧ v5 = .int .i64 x5_1 ∧ Aside0 (catchmentref03_Take.l0 kq a0 x4_1 x5_1 = some (r1, r2)) ∧ Aside0 (kq ≤ k) ∧ Drawn0 w w'))
  case atStart => exact ⟨(0), (0), (by first | rfl | (simp; done) | (simp [*]; done)), (by first | rfl | (simp; done) | (simp [*]; done)), H', ⟨Nat.le_refl _⟩, q58_0⟩
  case round =>
   (clear H'); (try clear c1); (try clear c2); (try clear c2b0); (try clear c2b1); (try clear p2); (obtain ⟨x4_1, x5_1, rfl, rfl, HA, HK1, ⟨m1, rfl⟩⟩ := hrel)
   cases gk with
   | zero => exact absurd HA.out (by simp [catchmentref03_Take.l0])
   | succ k1 =>
    (have H := HA.out); (clear HA); (simp only [catchmentref03_Take.l0] at H); (by_cases c3 : x5_1 < 8)
    ·rw [if_pos c3] at H
     (have c3b0 : decide (x5_1 < 8) = true := decide_eq_true c3); (clear c3); (by_cases c4 : 0 ≤ x5_1)
     ·rw [if_pos c4] at H
      (have c4b0 : decide (0 ≤ x5_1) = true := decide_eq_true c4); (clear c4); (by_cases c5 : x5_1 < (a0.size : Int))
      ·rw [if_pos c5] at H
       (have c5b0 : decide (x5_1 < (a0.size : Int)) = true := decide_eq_true c5); (clear c5); (have H' := Aside0.mk H); (clear H); (have p6 : 0 ≤ (x5_1 : Int) := of_decide_eq_true (by first | (with_reducible assumption) | assumption)); (have q6 : x5_1 < (a0.size : Int) := of_decide_eq_true (by first | (with_reducible assumption) | assumption)); (have hx6 := bt_at a0 x5_1); (replace p6 := eq_true p6); (replace q6 := eq_true q6); (go_wp2); (go_roundg k1)
       case measure => have := HK1.out; omega
       case rel => exact ⟨(IntKind.u64.wrap ((IntKind.u64.wrap (x4_1 * 256)) + (IntKind.u64.wrap (bt a0 x5_1)))), (wrap64 (x5_1 + 1)), (by first | rfl | (simp; done) | (simp [*]; done)), (by first | rfl | (simp; done) | (simp [*]; done)), H', ⟨by have := HK1.out; omega⟩, q58_0⟩
      ·rw [if_neg c5] at H
       exact absurd H (by simp)
     ·rw [if_neg c4] at H
      exact absurd H (by simp)
    ·rw [if_neg c3] at H
     (have c3b0 : decide (x5_1 < 8) = false := decide_eq_false c3); (clear c3); (simp only [Option.some.injEq, Prod.mk.injEq] at H); (obtain ⟨rfl, rfl⟩ := H); (go_wp2); (go_ret2); (exact ⟨by first | rfl | (simp; done) | (simp [*]; done), q58_0⟩)
 ·rw [if_neg c2] at H
  (have c2b0 : ((a0.size : Int) == 8) = false := beq_eq_false_iff_ne.mpr c2); (have c2b1 : ((a0.size : Int) != 8) = true := bne_iff_ne.mpr c2); (simp only [Option.some.injEq, Prod.mk.injEq] at H); (obtain ⟨rfl, rfl⟩ := H); (go_enter Try.func168, Try.ntmps168); (go_wp2); (go_ret2); (exact ⟨by first | rfl | (simp; done) | (simp [*]; done), q58_0⟩)
theorem q59_0 {P : Prop} (h : P := by (with_reducible repeat first | exact HB.out | apply y1_ | apply y2_ | apply y3_) <;> exact HB.out) : P := h
/-! ### catchmentref03_Add: function 143 -/
def catchmentref03_Add.f (k : Nat) (a0 : ByteArray) (a1 : Bool) (a2 : Int) : Option (ByteArray) := if a1 = true then ((catchmentref03_Take.f k a0).bind fun bt477 => (if bt477.2 = true then ((catchmentref03_Put.f k (IntKind.u64.wrap (bt477.1 + a2))).bind fun t479 => (some t479)) else (some a0))) else ((catchmentref03_Put.f k a2).bind fun t476 => (some t476))
theorem catchmentref03_Add.mono : ∀ a0 a1 a2 k, LeO (catchmentref03_Add.f k a0 a1 a2) (catchmentref03_Add.f (k + 1) a0 a1 a2) := by
 (intro a0 a1 a2 k); (unfold catchmentref03_Add.f)
 repeat' (with_reducible first | exact catchmentref03_Put.mono _ _ | exact catchmentref03_Take.mono _ _ | exact LeO.refl _ | exact LeO.none _ | refine LeO.ite ?_ ?_ | refine LeO.bind ?_ (fun _ => ?_))
set_option maxHeartbeats 8000000 in
set_option maxRecDepth 100000 in
theorem catchmentref03_Add.calls (k : Nat) (a0 : ByteArray) (a1 : Bool) (a2 : Int) (r : ByteArray) (w : World) (h : catchmentref03_Add.f k a0 a1 a2 = some r) :
  Calls Try.prog 143 #[.string a0, .bool a1, .int .u64 a2] w fun e w' => e = .returned (.string r) ∧ Below w.heap.size w w' := by
 (have HB := Aside0.mk (Below.refl w.heap.size w)); (have H : (if a1 = true then ((catchmentref03_Take.f k a0).bind fun bt477 => (if bt477.2 = true then ((catchmentref03_Put.f k (IntKind.u64.wrap (bt477.1 + a2))).bind fun t479 => (some t479)) else (some a0))) else ((catchmentref03_Put.f k a2).bind fun t476 => (some t476))) = some r := h); (clear h); (by_cases c4 : a1 = true)
 ·subst c4
  (have H1 : ((catchmentref03_Take.f k a0).bind fun bt477 => (if bt477.2 = true then ((catchmentref03_Put.f k (IntKind.u64.wrap (bt477.1 + a2))).bind fun t479 => (some t479)) else (some a0))) = some r := by rw [if_pos rfl] at H; exact H); (clear H); (have H := H1); (clear H1); (replace H := Option.bind_eq_some_iff.mp H); (obtain ⟨⟨t477, t478⟩, A50, H⟩ := H); (replace H : (if t478 = true then ((catchmentref03_Put.f k (IntKind.u64.wrap (t477 + a2))).bind fun t479 => (some t479)) else (some a0)) = some r := H); (have A5 := Aside0.mk A50); (clear A50); (by_cases c6 : t478 = true)
  ·subst c6
   (have H1 : ((catchmentref03_Put.f k (IntKind.u64.wrap (t477 + a2))).bind fun t479 => (some t479)) = some r := by rw [if_pos rfl] at H; exact H); (clear H); (have H := H1); (clear H1); (replace H := Option.bind_eq_some_iff.mp H); (obtain ⟨t479, A70, H⟩ := H); (replace H : (some t479) = some r := H); (have A7 := Aside0.mk A70); (clear A70); (obtain rfl := Option.some.inj H); (go_enter Try.func143, Try.ntmps143)
   (go_wp2_with (first | ((with_reducible refine gate_callee (f := 168) rfl ?_); refine goesL_ (some 15) rfl rfl Try.func168 (by kernel_rfl) rfl #[.string a0] rfl (by (try simp only [List.map_toArray, List.map_cons, List.map_nil]); first | done | rfl) ?_; (with_reducible refine (catchmentref03_Take.calls k a0 t477 true _ A5.out).mono ?_); rintro e w' ⟨rfl, ⟨nd, rfl⟩⟩; refine ⟨_, rfl, ?_⟩) | ((with_reducible refine gate_callee (f := 167) rfl ?_); refine goesL_ (some 22) rfl rfl Try.func167 (by kernel_rfl) rfl #[.int .u64 (IntKind.u64.wrap (t477 + a2))] rfl (by (try simp only [List.map_toArray, List.map_cons, List.map_nil]); first | done | rfl) ?_; (with_reducible refine (catchmentref03_Put.calls k (IntKind.u64.wrap (t477 + a2)) t479 _ A7.out).mono ?_); rintro e w8 ⟨rfl, hb⟩; refine ⟨_, rfl, ?_⟩; replace HB := Aside0.mk (below_step (q59_0) hb); (try clear hb); (try clear hb2); (try clear hk); (try clear hi)))); (go_ret)
   exact ⟨by first | rfl | (simp [*, errW_none, errW_some] <;> rfl), q59_0⟩
  ·replace c6 := Bool.eq_false_iff.mpr c6
   (subst c6); (have H1 : (some a0) = some r := by rw [if_neg (show ¬ (false = true) by decide)] at H; exact H); (clear H); (have H := H1); (clear H1); (obtain rfl := Option.some.inj H); (go_enter Try.func143, Try.ntmps143); (go_wp2_with (first | ((with_reducible refine gate_callee (f := 168) rfl ?_); refine goesL_ (some 15) rfl rfl Try.func168 (by kernel_rfl) rfl #[.string a0] rfl (by (try simp only [List.map_toArray, List.map_cons, List.map_nil]); first | done | rfl) ?_; (with_reducible refine (catchmentref03_Take.calls k a0 t477 false _ A5.out).mono ?_); rintro e w' ⟨rfl, ⟨nd, rfl⟩⟩; refine ⟨_, rfl, ?_⟩))); (go_ret); (exact ⟨by first | rfl | (simp [*, errW_none, errW_some] <;> rfl), q59_0⟩)
 ·replace c4 := Bool.eq_false_iff.mpr c4
  (subst c4); (have H1 : ((catchmentref03_Put.f k a2).bind fun t476 => (some t476)) = some r := by rw [if_neg (show ¬ (false = true) by decide)] at H; exact H); (clear H); (have H := H1); (clear H1); (replace H := Option.bind_eq_some_iff.mp H); (obtain ⟨t476, A90, H⟩ := H); (replace H : (some t476) = some r := H); (have A9 := Aside0.mk A90); (clear A90); (obtain rfl := Option.some.inj H); (go_enter Try.func143, Try.ntmps143); (go_wp2_with (first | ((with_reducible refine gate_callee (f := 167) rfl ?_); refine goesL_ (some 12) rfl rfl Try.func167 (by kernel_rfl) rfl #[.int .u64 a2] rfl (by (try simp only [List.map_toArray, List.map_cons, List.map_nil]); first | done | rfl) ?_; (with_reducible refine (catchmentref03_Put.calls k a2 t476 _ A9.out).mono ?_); rintro e w10 ⟨rfl, hb⟩; refine ⟨_, rfl, ?_⟩; replace HB := Aside0.mk (below_step (q59_0) hb); (try clear hb); (try clear hb2); (try clear hk); (try clear hi)))); (go_ret)
  exact ⟨by first | rfl | (simp [*, errW_none, errW_some] <;> rfl), q59_0⟩
theorem eqA46 (d : Nat) (w : World) (x0 y0 : Int) (x1 y1 : Int) (x2 y2 : ByteArray) (x3 y3 : ByteArray) (x4 y4 : ByteArray) (x5 y5 : Int) :
  (Op.equalIn (d + 2) 46 (.agg #[.int .u8 x0, .int .i64 x1, .string x2, .string x3, .string x4, .int .u64 x5]) (.agg #[.int .u8 y0, .int .i64 y1, .string y2, .string y3, .string y4, .int .u64 y5])).run Try.prog w = .ok (x0 == y0 && (x1 == y1 && (x2.toList == y2.toList && (x3.toList == y3.toList && (x4.toList == y4.toList && (x5 == y5)))))) w := by
 refine eqA_of Try.underlying46 (by kernel_rfl) ?_
 refine eqf_cons (by rfl) (by go_simp; rfl) (by go_simp; rfl) (by go_simp) ?_
 refine eqf_cons (by rfl) (by go_simp; rfl) (by go_simp; rfl) (by go_simp) ?_
 refine eqf_cons (by rfl) (by go_simp; rfl) (by go_simp; rfl) (by go_simp) ?_
 refine eqf_cons (by rfl) (by go_simp; rfl) (by go_simp; rfl) (by go_simp) ?_
 refine eqf_cons (by rfl) (by go_simp; rfl) (by go_simp; rfl) (by go_simp) ?_
 exact eqf_last (by rfl) (by go_simp; rfl) (by go_simp; rfl) (by go_simp)
end Go.Proofs.Ytnklnjghecmihaa.L2

