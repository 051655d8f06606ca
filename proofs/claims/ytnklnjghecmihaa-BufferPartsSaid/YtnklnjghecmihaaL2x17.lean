/- tight -/ -- written by wip/myprint.py
import Derived.Test.YtnklnjghecmihaaL2x0
import Derived.Test.YtnklnjghecmihaaL2P0
import Derived.Test.YtnklnjghecmihaaL2x14
import Derived.Test.YtnklnjghecmihaaL2x16
namespace Go.Proofs.Ytnklnjghecmihaa.L2
open Go.RowKit Go.Proofs.YtnklnjghecmihaaW PrintWords PrintLast PrintMore Mine
attribute [local go_sem] max2_int min2_int max_two min_two max_three min_three max_four min_four max2_str min2_str binOp_gtr_str binOp_leq_str binOp_geq_str
set_option linter.unusedVariables false
set_option linter.unusedSimpArgs false
theorem q17_0 {P : Prop} (h : P := by (with_reducible repeat first | exact HB.out | apply y1_ | apply y2_ | apply y3_) <;> exact HB.out) : P := h
theorem q17_1 {P : Prop} (h : P := by (with_reducible repeat first | exact HB.out | apply y1_ | apply y2_ | apply y3_ | refine y4_ ?_ GE137.out) <;> exact HB.out) : P := h
theorem q17_2 {P : Prop} (h : P := by (with_reducible repeat first | apply z1_ | apply z2_ | apply z3_); exact BK137.out) : P := h
theorem q17_3 {P : Prop} (h : P := by rintro w' ⟨s0, s1, s2, s3, s4, s5, s6, s7, s8, s9, s10, s11⟩; go_simp; with_reducible rfl) : P := h
theorem q17_4 {P : Prop} (h : P := by exact ⟨(b_ BK137 0), (b_ BK137 1), (b_ BK137 2), (b_ BK137 3), (b_ BK137 4), (b_ BK137 5), (b_ BK138 0), (b_ BK138 1), (b_ BK138 2), (b_ BK138 3), (b_ BK138 4), (b_ BK138 5)⟩) : P := h
theorem q17_5 {P : Prop} (h : P := by (with_reducible repeat first | exact HB.out | apply y1_ | apply y2_ | apply y3_ | refine y4_ ?_ GE137.out | refine y4_ ?_ GE138.out) <;> exact HB.out) : P := h

/-! ### buffer_order: function 91 -/
def buffer_order.f (k : Nat) (a0_0 : Int) (a0_1 : Int) (a0_2 : ByteArray) (a0_3 : ByteArray) (a0_4 : ByteArray) (a0_5 : Int) (a1_0 : Int) (a1_1 : Int) (a1_2 : ByteArray) (a1_3 : ByteArray) (a1_4 : ByteArray) (a1_5 : Int) : Option (Int) := (cmp_Compare_int.f a0_1 a1_1).bind fun t139 => ((cmp_Compare_string.f a0_2 a1_2).bind fun t140 => ((cmp_Or_int.f k (([t139, t140] : List Int))).bind fun t144 => (some t144)))
theorem buffer_order.mono : ∀ a0 a1 a2 a3 a4 a5 a6 a7 a8 a9 a10 a11 k, LeO (buffer_order.f k a0 a1 a2 a3 a4 a5 a6 a7 a8 a9 a10 a11) (buffer_order.f (k + 1) a0 a1 a2 a3 a4 a5 a6 a7 a8 a9 a10 a11) := by
 (intro a0 a1 a2 a3 a4 a5 a6 a7 a8 a9 a10 a11 k); (unfold buffer_order.f)
 repeat' (with_reducible first | exact cmp_Or_int.mono _ _ | exact LeO.refl _ | exact LeO.none _ | refine LeO.ite ?_ ?_ | refine LeO.bind ?_ (fun _ => ?_))
def buffer_order.T1 : Bool × List (List Nat × List Nat) := (true, [([], []), ([0], [0]), ([], []), ([2], [2]), ([1, 3], [1, 3]), ([], []), ([5], [5]), ([], []), ([7], [7]), ([6, 8, 4], [6, 8]), ([4, 9], [4, 9]), ([10, 9], [10]), ([11, 11, 0, 1, 2, 3, 4, 5, 6, 7, 8, 9, 10, 11], [11])])
def buffer_order.B1 : List Nat := [0, 1, 0, 4, 15, 0, 32, 0, 128, 511, 1023, 2047, 4095]
theorem buffer_order.tab1 : rtab .any (opsOf Try.f91 1) = buffer_order.T1 := by kernel_rfl
theorem buffer_order.bits1 : waitsOk buffer_order.T1.2 buffer_order.B1 = true := by kernel_rfl
set_option maxHeartbeats 8000000 in
set_option maxRecDepth 100000 in
theorem buffer_order.calls (k : Nat) (a0_0 : Int) (a0_1 : Int) (a0_2 : ByteArray) (a0_3 : ByteArray) (a0_4 : ByteArray) (a0_5 : Int) (a1_0 : Int) (a1_1 : Int) (a1_2 : ByteArray) (a1_3 : ByteArray) (a1_4 : ByteArray) (a1_5 : Int) (r : Int) (w : World) (h : buffer_order.f k a0_0 a0_1 a0_2 a0_3 a0_4 a0_5 a1_0 a1_1 a1_2 a1_3 a1_4 a1_5 = some r) :
  Calls Try.prog 91 #[.agg #[.int .u8 a0_0, .int .i64 a0_1, .string a0_2, .string a0_3, .string a0_4, .int .u64 a0_5], .agg #[.int .u8 a1_0, .int .i64 a1_1, .string a1_2, .string a1_3, .string a1_4, .int .u64 a1_5]] w fun e w' => e = .returned (.int .i64 r) ∧ Below w.heap.size w w' := by
 (have hu46 := Try.underlying46); (have HB := Aside0.mk (Below.refl w.heap.size w)); (have H : ((cmp_Compare_int.f a0_1 a1_1).bind fun t139 => ((cmp_Compare_string.f a0_2 a1_2).bind fun t140 => ((cmp_Or_int.f k (([t139, t140] : List Int))).bind fun t144 => (some t144)))) = some r := h); (clear h); (replace H := Option.bind_eq_some_iff.mp H); (obtain ⟨t139, A30, H⟩ := H); (replace H : ((cmp_Compare_string.f a0_2 a1_2).bind fun t140 => ((cmp_Or_int.f k (([t139, t140] : List Int))).bind fun t144 => (some t144))) = some r := H); (have A3 := Aside0.mk A30); (clear A30); (replace H := Option.bind_eq_some_iff.mp H); (obtain ⟨t140, A40, H⟩ := H); (replace H : ((cmp_Or_int.f k (([t139, t140] : List Int))).bind fun t144 => (some t144)) = some r := H); (have A4 := Aside0.mk A40); (clear A40); (obtain ⟨y141, hy141⟩ : ∃ y_ : List Int, y_ = (([t139, t140] : List Int)) := ⟨_, rfl⟩)
 (replace H : ((cmp_Or_int.f k y141).bind fun t144 => (some t144)) = some r := by first | (rw [hy141]; with_reducible exact H) | (have H2_ := (Option.bind_some _ _).symm.trans H; rw [hy141]; with_reducible exact H2_) | (have H2_ := (Option.bind_some _ _).symm.trans H; with_reducible exact H2_) | with_reducible exact H | (rw [hy141]; exact H) | exact H); (have Ny141 := Aside0.mk hy141); (clear hy141); (replace H := Option.bind_eq_some_iff.mp H); (obtain ⟨t144, A50, H⟩ := H); (replace H : (some t144) = some r := H); (have A5 := Aside0.mk A50); (clear A50); (obtain rfl := Option.some.inj H); (go_enter Try.func91, Try.ntmps91)
 try go_wp2_with (first | ((with_reducible refine gate_dst (N := 2) rfl ?_); refine box_event ?hg (N := 2) ?hd (cs := #[.int .u8 a0_0, .int .i64 a0_1, .string a0_2, .string a0_3, .string a0_4, .int .u64 a0_5]) (t := 46) ?hr ?_; (case hd => rfl); (case hg => rfl); (case hr => first | (go_simp; done) | (go_simp; rfl)); intro gb137 hg w6 hbox hb; have BK137 := Aside0.mk (hbox); have GW137 := Aside0.mk (hs_ hg (q17_0)); replace HB := Aside0.mk (below_step (q17_0) hb); have GE137 := GW137; clear hb hbox hg) | ((with_reducible refine gate_dst (N := 3) rfl ?_); refine box_event ?hg (N := 3) ?hd (cs := #[.int .u8 a1_0, .int .i64 a1_1, .string a1_2, .string a1_3, .string a1_4, .int .u64 a1_5]) (t := 46) ?hr ?_; (case hd => rfl); (case hg => rfl); (case hr => first | (go_simp; done) | (go_simp; rfl)); intro gb138 hg w7 hbox hb; have BK138 := Aside0.mk (hbox); have GW138 := Aside0.mk (hs_ hg (q17_1)); replace HB := Aside0.mk (below_step (q17_1) hb); have GE138 := GW138; have NB137_138 := Aside0.mk (nl_ hg (q17_2)); have NB138_137 := Aside0.mk (ng_ hg (q17_2)); replace BK137 := Aside0.mk (blk_below (q17_2) hb); clear hb hbox hg))
 (replace BK137 := Aside0.mk (blk_drew BK137.out)); (replace BK138 := Aside0.mk (blk_drew BK138.out)); (replace HB := Aside0.mk (below_drew1 HB.out))
 refine start_ (n := 13) (S := fun w' => w'.cell? ⟨gb137, 0, none⟩ = some (.int .u8 a0_0) ∧ w'.cell? ⟨gb137, 1, none⟩ = some (.int .i64 a0_1) ∧ w'.cell? ⟨gb137, 2, none⟩ = some (.string a0_2) ∧ w'.cell? ⟨gb137, 3, none⟩ = some (.string a0_3) ∧ w'.cell? ⟨gb137, 4, none⟩ = some (.string a0_4) ∧ w'.cell? ⟨gb137, 5, none⟩ = some (.int .u64 a0_5) ∧ w'.cell? ⟨gb138, 0, none⟩ = some (.int .u8 a1_0) ∧ w'.cell? ⟨gb138, 1, none⟩ = some (.int .i64 a1_1) ∧ w'.cell? ⟨gb138, 2, none⟩ = some (.string a1_2) ∧ w'.cell? ⟨gb138, 3, none⟩ = some (.string a1_3) ∧ w'.cell? ⟨gb138, 4, none⟩ = some (.string a1_4) ∧ w'.cell? ⟨gb138, 5, none⟩ = some (.int .u64 a1_5)) (ds := []) #[false, false, false, false, false, false, false, false, false, false, false, false, false] (by kernel_rfl) rfl rfl ⟨(b_ BK137 0), (b_ BK137 1), (b_ BK137 2), (b_ BK137 3), (b_ BK137 4), (b_ BK137 5), (b_ BK138 0), (b_ BK138 1), (b_ BK138 2), (b_ BK138 3), (b_ BK138 4), (b_ BK138 5)⟩ (fun hHeld => ?_); refine with_tabW buffer_order.tab1 buffer_order.bits1 (fun HT_ HW_ => ?_)
 (generalize w7.drew = w8 at BK137 BK138 HB hHeld ⊢); (refine pv_ 0 5 HT_.out ?_)
 refine pv_ 2 7 HT_.out ?_
 refine pv_ 5 10 HT_.out ?_
 refine pv_ 7 12 HT_.out ?_
 refine tv_ 1 6 HT_.out HW_.out rfl hHeld (q17_3) ?_
 refine tv_ 3 8 HT_.out HW_.out rfl hHeld (q17_3) ?_
 refine tv_ 6 11 HT_.out HW_.out rfl hHeld (q17_3) ?_
 refine tv_ 8 13 HT_.out HW_.out rfl hHeld (q17_3) ?_
 (refine one_ (i := 4) (N := some 9) #[true, true, true, true, true, true, true, true, true, false, false, false, false] rfl rfl (one_of HT_.out (by kernel_rfl)) (by decide) (fun K hK => ?_)); (refine goes_ Try.func132 (by kernel_rfl) rfl #[.int .i64 a0_1, .int .i64 a1_1] (by rfl) rfl rfl (by (try simp only [List.map_toArray, List.map_cons, List.map_nil]); first | done | rfl) ?_); (with_reducible refine (cmp_Compare_int.calls a0_1 a1_1 t139 _ A3.out).mono ?_); (rintro e w' ⟨rfl, ⟨nd, rfl⟩⟩); (refine ⟨_, rfl, ?_⟩); (refine hK.out _ _ q17_4 (fun hHeld => ?_)); (clear hK K); (refine norm_ (a' := ?_) ?_ ?_)
 rotate_left
 ·show Act.put _ (some 9) _ = _
  (simp only [pt_, pn_, sz_, ss_, i64_w, i32_w]); (rfl)
 (refine one_ (i := 9) (N := some 14) #[true, true, true, true, true, true, true, true, true, true, false, false, false] rfl rfl (one_of HT_.out (by kernel_rfl)) (by decide) (fun K hK => ?_)); (refine goes_ Try.func133 (by kernel_rfl) rfl #[.string a0_2, .string a1_2] (by rfl) rfl rfl (by (try simp only [List.map_toArray, List.map_cons, List.map_nil]); first | done | rfl) ?_); (with_reducible refine (cmp_Compare_string.calls a0_2 a1_2 t140 _ A4.out).mono ?_); (rintro e w' ⟨rfl, ⟨nd, rfl⟩⟩); (refine ⟨_, rfl, ?_⟩); (refine hK.out _ _ q17_4 (fun hHeld => ?_)); (clear hK K); (refine norm_ (a' := ?_) ?_ ?_)
 rotate_left
 ·show Act.put _ (some 14) _ = _
  (simp only [pt_, pn_, sz_, ss_, i64_w, i32_w]); (rfl)
 (refine one_ (i := 10) (N := some 15) #[true, true, true, true, true, true, true, true, true, true, true, false, false] rfl rfl (one_of HT_.out (by kernel_rfl)) (by decide) (fun K hK => ?_)); (refine Kd.R_lit_step (Kd.int .i64) _ 3 ?hg (N := 15) ?hd (xs := ([t139, t140] : List Int)) (inner := [.int .i64 t139, .int .i64 t140]) (ok := fun _ => True) (okp := fun _ => True) ?hr ?hp (fun _ hk => hk) trivial (Below.refl _ _) (Nat.le_refl _) (by simp) ?_; (case hd => rfl); (case hg => rfl); (case hr => first | (go_simp; done) | (go_simp; rfl)); (case hp => exact (Reps.one (show Kd.M (Kd.int .i64) _ _ _ t139 [.int .i64 t139] from rfl) (Reps.one (show Kd.M (Kd.int .i64) _ _ _ t140 [.int .i64 t140] from rfl) (Reps.none _ _))))); (intro v142 w9 ho10 hb hg_ hnew_); (clear hg_ hnew_); ((first | rw [← Ny141.out] at ho10 | (simp only [Int.reduceToNat] at ho10; rw [← Ny141.out] at ho10))); (have n0_ := Aside0.mk (Kd.R_lower ho10 (below_size (q17_5))))
 (have n1_ := Aside0.mk (blk_below (q17_2) hb)); (have n2_ := Aside0.mk (blk_below (by (with_reducible repeat first | apply z1_ | apply z2_ | apply z3_); exact BK138.out) hb)); (have n3_ := Aside0.mk (below_step (q17_5) hb)); (clear BK137 BK138 HB); (have HO143 := n0_); (have BK137 := n1_); (have BK138 := n2_); (have HB := n3_); (clear n0_ n1_ n2_ n3_ hb ho10); (obtain ⟨Ao11, co11, eo11⟩ := Kd.R_slice HO143.out); ((first | subst eo11 | (injection eo11 with f1_ f2_ f3_; have f4_ := f1_.symm; have f5_ := f3_.symm; clear f1_ f2_ f3_; subst f4_; subst f5_)))
 (refine hK.out _ _ q17_4 (fun hHeld => ?_)); (clear hK K); (refine norm_ (a' := ?_) ?_ ?_)
 rotate_left
 ·show Act.put _ (some 15) _ = _
  (simp only [pt_, pn_, sz_, ss_, i64_w, i32_w]); (rfl)
 (refine one_ (i := 11) (N := some 16) #[true, true, true, true, true, true, true, true, true, true, true, true, false] rfl rfl (one_of HT_.out (by kernel_rfl)) (by decide) (fun K hK => ?_)); (refine goes_ Try.func131 (by kernel_rfl) rfl #[.slice Ao11 y141.length co11] (by rfl) rfl rfl (by (try simp only [List.map_toArray, List.map_cons, List.map_nil]); first | done | rfl) ?_); (with_reducible refine (cmp_Or_int.calls k _ _ y141 t144 _ ?side1 ?side2 A5.out).mono ?_); ((case side1 => repeat (first | exact (Kd.R_reads' HO143.out).2.2 | (with_reducible refine Kd.C_alloc ?_ _) | (with_reducible refine Kd.C_drewN ?_ _) | (with_reducible refine Kd.C_drew ?_)))); ((case side2 => exact (Kd.R_reads' HO143.out).2.1)); (rintro e w' ⟨rfl, ⟨nd, rfl⟩⟩); (refine ⟨_, rfl, ?_⟩)
 (refine hK.out _ _ q17_4 (fun hHeld => ?_)); (clear hK K); (refine norm_ (a' := ?_) ?_ ?_)
 rotate_left
 ·show Act.put _ (some 16) _ = _
  (simp only [pt_, pn_, sz_, ss_, i64_w, i32_w]); (rfl)
 refine pv_ 12 4 HT_.out ?_
 (refine done_ (done_of HT_.out (by kernel_rfl)) ?_); (try go_wp2); (go_ret); (exact ⟨by first | rfl | (simp [*, errW_none, errW_some] <;> rfl), q17_5⟩)

end Go.Proofs.Ytnklnjghecmihaa.L2
