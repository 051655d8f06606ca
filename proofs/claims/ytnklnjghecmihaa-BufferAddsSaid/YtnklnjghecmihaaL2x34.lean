/- tight -/ -- written by wip/myprint.py
import Derived.Test.YtnklnjghecmihaaL2x0
import Derived.Test.YtnklnjghecmihaaL2P0
namespace Go.Proofs.Ytnklnjghecmihaa.L2
open Go.RowKit Go.Proofs.YtnklnjghecmihaaW PrintWords PrintLast PrintMore Mine
attribute [local go_sem] max2_int min2_int max_two min_two max_three min_three max_four min_four max2_str min2_str binOp_gtr_str binOp_leq_str binOp_geq_str
set_option linter.unusedVariables false
set_option linter.unusedSimpArgs false
theorem q34_0 {P : Prop} (h : P := by (with_reducible repeat first | exact HB.out | apply y1_ | apply y2_ | apply y3_) <;> exact HB.out) : P := h
theorem q34_1 {P : Prop} (h : P := by (with_reducible repeat first | apply z1_ | apply z2_ | apply z3_); exact BK204.out) : P := h
theorem q34_2 {P : Prop} (h : P := by (with_reducible repeat first | exact HB.out | apply y1_ | apply y2_ | apply y3_ | refine y4_ ?_ GE204.out) <;> exact HB.out) : P := h
theorem q34_3 {P : Prop} (h : P := by (with_reducible repeat first | apply z1_ | apply z2_ | apply z3_); exact BK205.out) : P := h
theorem q34_4 {P : Prop} (h : P := by (with_reducible repeat first | exact HB.out | apply y1_ | apply y2_ | apply y3_ | refine y4_ ?_ GE204.out | refine y4_ ?_ GE205.out) <;> exact HB.out) : P := h
theorem q34_5 {P : Prop} (h : P := by (with_reducible repeat first | apply z1_ | apply z2_ | apply z3_); exact BK206.out) : P := h
theorem q34_6 {P : Prop} (h : P := by (with_reducible repeat first | exact HB.out | apply y1_ | apply y2_ | apply y3_ | refine y4_ ?_ GE204.out | refine y4_ ?_ GE205.out | refine y4_ ?_ GE206.out) <;> exact HB.out) : P := h
theorem q34_7 {P : Prop} (h : P := by (with_reducible repeat first | apply z1_ | apply z2_ | apply z3_); refine blk_put (cs := #[.string ⟨#[]⟩, .string ⟨#[]⟩]) ?_ 1 _ rfl; (with_reducible repeat first | apply z1_ | apply z2_ | apply z3_); refine blk_put (cs := #[.string ⟨#[]⟩, .string ⟨#[]⟩]) ?_ 0 _ rfl; (with_reducible repeat first | apply z1_ | apply z2_ | apply z3_); exact BK206.out) : P := h
theorem q34_8 {P : Prop} (h : P := by exact ⟨(b_ BK204 0), (b_ BK204 1), (b_ BK205 0), (b_ BK205 1)⟩) : P := h
theorem q34_9 {P : Prop} (h : P := by simp only [putAll, Act.put, List.setIfInBounds_toArray, List.set_cons_zero, List.set_cons_succ]) : P := h
theorem q34_10 {P : Prop} (h : P := by (with_reducible repeat first | apply z1_ | apply z2_ | apply z3_); exact BK210.out) : P := h
theorem q34_11 {P : Prop} (h : P := by (with_reducible repeat first | exact HB.out | apply y1_ | apply y2_ | apply y3_ | refine y4_ ?_ GE204.out | refine y4_ ?_ GE205.out | refine y4_ ?_ GE206.out | refine y4_ ?_ GE210.out) <;> exact HB.out) : P := h
theorem q34_12 {P : Prop} (h : P := by exact ⟨((cell_far (p := ⟨gb210, _, none⟩) NB204_210.out _).trans (((cell_far (p := ⟨gb210, _, none⟩) NB204_210.out _).trans (hHeld.1)))), ((cell_far (p := ⟨gb210, _, none⟩) NB204_210.out _).trans (((cell_far (p := ⟨gb210, _, none⟩) NB204_210.out _).trans (hHeld.2.1)))), ((cell_far (p := ⟨gb210, _, none⟩) NB205_210.out _).trans (((cell_far (p := ⟨gb210, _, none⟩) NB205_210.out _).trans (hHeld.2.2.1)))), ((cell_far (p := ⟨gb210, _, none⟩) NB205_210.out _).trans (((cell_far (p := ⟨gb210, _, none⟩) NB205_210.out _).trans (hHeld.2.2.2))))⟩) : P := h
theorem q34_13 {P : Prop} (h : P := by (with_reducible repeat (first | refine z1_ ?_ _ | refine z2_ ?_ | refine z3_ ?_ _ | refine z4_ ?_ NB204_210.out _)); exact BK204.out) : P := h
theorem q34_14 {P : Prop} (h : P := by (with_reducible repeat (first | refine z1_ ?_ _ | refine z2_ ?_ | refine z3_ ?_ _ | refine z4_ ?_ NB205_210.out _)); exact BK205.out) : P := h
theorem q34_15 {P : Prop} (h : P := by (with_reducible repeat (first | refine z1_ ?_ _ | refine z2_ ?_ | refine z3_ ?_ _ | refine z4_ ?_ NB206_210.out _)); exact BK206.out) : P := h
theorem q34_16 {P : Prop} (h : P := by (with_reducible repeat first | apply z1_ | apply z2_ | apply z3_); refine blk_put (cs := #[.string (smx a0_0 a1_0), .string ⟨#[]⟩]) ?_ 1 _ rfl; (with_reducible repeat first | apply z1_ | apply z2_ | apply z3_); refine blk_put (cs := #[.string ⟨#[]⟩, .string ⟨#[]⟩]) ?_ 0 _ rfl; (with_reducible repeat first | apply z1_ | apply z2_ | apply z3_); exact BK210.out) : P := h

/-! ### key_Meet: function 135 -/
def key_Meet.j0 : Nat → Bool → ByteArray → ByteArray → ByteArray → ByteArray → Option (ByteArray × ByteArray × Bool)
 | 0, _, _, _, _, _ => none
 | k + 1, x14, x205000, x205001, x206000, x206001 => if x14 = true then (some ((⟨#[]⟩ : ByteArray), (⟨#[]⟩ : ByteArray), false)) else ((key_First.f x205001 x206001).bind fun t209 => ((key_RightRange.f (smx x205000 x206000) t209).bind fun t211 => (if t211 = true then (some (smx x205000 x206000, t209, true)) else (some ((⟨#[]⟩ : ByteArray), (⟨#[]⟩ : ByteArray), false)))))
def key_Meet.f (k : Nat) (a0_0 : ByteArray) (a0_1 : ByteArray) (a1_0 : ByteArray) (a1_1 : ByteArray) : Option (ByteArray × ByteArray × Bool) := (key_RightRange.f a0_0 a0_1).bind fun t207 => (if t207 = true then ((key_RightRange.f a1_0 a1_1).bind fun t208 => (key_Meet.j0 k (!t208) a0_0 a0_1 a1_0 a1_1)) else (key_Meet.j0 k true a0_0 a0_1 a1_0 a1_1))
theorem key_Meet.mono_l : ∀ k, (∀ y0 y1 y2 y3 y4, LeO (key_Meet.j0 k y0 y1 y2 y3 y4) (key_Meet.j0 (k + 1) y0 y1 y2 y3 y4))
 | 0 => fun _ _ _ _ _ r h => by simp [key_Meet.j0] at h
 | k + 1 => by
  have ih0 := key_Meet.mono_l k
  ·intro y0 y1 y2 y3 y4
   unfold key_Meet.j0
   repeat' (with_reducible first | exact ih0 _ _ _ _ _ | exact LeO.refl _ | exact LeO.none _ | refine LeO.ite ?_ ?_ | refine LeO.bind ?_ (fun _ => ?_))
theorem key_Meet.mono : ∀ a0 a1 a2 a3 k, LeO (key_Meet.f k a0 a1 a2 a3) (key_Meet.f (k + 1) a0 a1 a2 a3) := by
 (intro a0 a1 a2 a3 k); (have ih0 := key_Meet.mono_l k); (unfold key_Meet.f)
 repeat' (with_reducible first | exact ih0 _ _ _ _ _ | exact LeO.refl _ | exact LeO.none _ | refine LeO.ite ?_ ?_ | refine LeO.bind ?_ (fun _ => ?_))
def key_Meet.T3 : Bool × List (List Nat × List Nat) := (true, [([], []), ([0], [0]), ([], []), ([2], [2]), ([1, 3], [1, 3]), ([], []), ([5], [5]), ([], []), ([7], [7]), ([6, 8], [6, 8]), ([4, 9], [4, 9]), ([], []), ([11, 10, 9, 0, 1, 2, 3, 4, 5, 6, 7, 8, 9, 10, 11], [10, 11])])
def key_Meet.B3 : List Nat := [0, 1, 0, 4, 15, 0, 32, 0, 128, 480, 1023, 0, 4095]
theorem key_Meet.tab3 : rtab .any (opsOf Try.f135 3) = key_Meet.T3 := by kernel_rfl
theorem key_Meet.bits3 : waitsOk key_Meet.T3.2 key_Meet.B3 = true := by kernel_rfl
set_option maxHeartbeats 8000000 in
set_option maxRecDepth 100000 in
theorem key_Meet.calls (k : Nat) (a0_0 : ByteArray) (a0_1 : ByteArray) (a1_0 : ByteArray) (a1_1 : ByteArray) (r1 : ByteArray) (r2 : ByteArray) (r3 : Bool) (w : World) (h : key_Meet.f k a0_0 a0_1 a1_0 a1_1 = some (r1, r2, r3)) :
  Calls Try.prog 135 #[.agg #[.string a0_0, .string a0_1], .agg #[.string a1_0, .string a1_1]] w fun e w' => e = .returned (.tuple #[.agg #[.string r1, .string r2], .bool r3]) ∧ Below w.heap.size w w' := by
 (have hu48 := Try.underlying48); (have HB := Aside0.mk (Below.refl w.heap.size w)); (have H : ((key_RightRange.f a0_0 a0_1).bind fun t207 => (if t207 = true then ((key_RightRange.f a1_0 a1_1).bind fun t208 => (key_Meet.j0 k (!t208) a0_0 a0_1 a1_0 a1_1)) else (key_Meet.j0 k true a0_0 a0_1 a1_0 a1_1))) = some (r1, r2, r3) := h); (clear h); (have HC3 := Aside0.mk H); (clear H); (go_enter Try.func135, Try.ntmps135)
 go_upto_region 1 with (first | ((with_reducible refine gate_dst (N := 2) rfl ?_); refine box_event ?hg (N := 2) ?hd (cs := #[.string a0_0, .string a0_1]) (t := 48) ?hr ?_; (case hd => rfl); (case hg => rfl); (case hr => first | (go_simp; done) | (go_simp; rfl)); intro gb204 hg w4 hbox hb; have n0_ := Aside0.mk (below_step (q34_0) hb); have n1_ := Aside0.mk (hbox); have n2_ := Aside0.mk (hs_ hg (q34_0)); have n3_ := n2_; clear HB; have HB := n0_; have BK204 := n1_; have GW204 := n2_; have GE204 := n3_; clear n0_ n1_ n2_ n3_; clear hb hbox hg) | ((with_reducible refine gate_dst (N := 3) rfl ?_); refine box_event ?hg (N := 3) ?hd (cs := #[.string a1_0, .string a1_1]) (t := 48) ?hr ?_; (case hd => rfl); (case hg => rfl); (case hr => first | (go_simp; done) | (go_simp; rfl)); intro gb205 hg w5 hbox hb; have n0_ := Aside0.mk (blk_below (q34_1) hb); have n1_ := Aside0.mk (below_step (q34_2) hb); have n2_ := Aside0.mk (hbox); have n3_ := Aside0.mk (hs_ hg (q34_2)); have n4_ := n3_; have n5_ := Aside0.mk (nl_ hg (q34_1)); have n6_ := Aside0.mk (ng_ hg (q34_1)); clear BK204; clear HB; have BK204 := n0_; have HB := n1_; have BK205 := n2_; have GW205 := n3_; have GE205 := n4_; have NB204_205 := n5_; have NB205_204 := n6_; clear n0_ n1_ n2_ n3_ n4_ n5_ n6_; clear hb hbox hg) | ((with_reducible refine gate_dst (N := 4) rfl ?_); refine box_event ?hg (N := 4) ?hd (cs := #[.string ⟨#[]⟩, .string ⟨#[]⟩]) (t := 48) ?hr ?_; (case hd => rfl); (case hg => rfl); (case hr => first | (go_simp; done) | (go_simp; rfl)); intro gb206 hg w6 hbox hb; have n0_ := Aside0.mk (blk_below (q34_1) hb); have n1_ := Aside0.mk (blk_below (q34_3) hb); have n2_ := Aside0.mk (below_step (q34_4) hb); have n3_ := Aside0.mk (hbox); have n4_ := Aside0.mk (hs_ hg (q34_4)); have n5_ := n4_; have n6_ := Aside0.mk (nl_ hg (q34_1)); have n7_ := Aside0.mk (ng_ hg (q34_1)); have n8_ := Aside0.mk (nl_ hg (q34_3)); have n9_ := Aside0.mk (ng_ hg (q34_3)); clear BK204; clear BK205; clear HB; have BK204 := n0_; have BK205 := n1_; have HB := n2_; have BK206 := n3_; have GW206 := n4_; have GE206 := n5_; have NB204_206 := n6_; have NB206_204 := n7_; have NB205_206 := n8_; have NB206_205 := n9_; clear n0_ n1_ n2_ n3_ n4_ n5_ n6_ n7_ n8_ n9_; clear hb hbox hg))
 ((try simp only [Act.put, List.setIfInBounds_toArray, List.set_cons_zero, List.set_cons_succ])); (go_cut [14] (fun v14 wc => ∃ (kq : Nat) (x14_2 : Bool), v14 = .bool x14_2 ∧ Aside0 (key_Meet.j0 kq x14_2 a0_0 a0_1 a1_0 a1_1 = some (r1, r2, r3)) ∧ Aside0 (kq ≤ k) ∧ Aside0 (wc.heap[gb204]? = some (.cells #[.string a0_0, .string a0_1] 48 (0, 0))) ∧ Aside0 (wc.heap[gb205]? = some (.cells #[.string a1_0, .string a1_1] 48 (0, 0))) ∧ Aside0 (wc.heap[gb206]? = some (.cells #[.string ⟨#[]⟩, .string ⟨#[]⟩] 48 (0, 0))) ∧ Aside0 (Below w.heap.size w wc)))
 case first =>
  (have H := HC3.out); (clear HC3); (replace H := Option.bind_eq_some_iff.mp H); (obtain ⟨t207, A70, H⟩ := H); (replace H : (if t207 = true then ((key_RightRange.f a1_0 a1_1).bind fun t208 => (key_Meet.j0 k (!t208) a0_0 a0_1 a1_0 a1_1)) else (key_Meet.j0 k true a0_0 a0_1 a1_0 a1_1)) = some (r1, r2, r3) := H); (have A7 := Aside0.mk A70); (clear A70); (by_cases c8 : t207 = true)
  ·subst c8
   (have H1 : ((key_RightRange.f a1_0 a1_1).bind fun t208 => (key_Meet.j0 k (!t208) a0_0 a0_1 a1_0 a1_1)) = some (r1, r2, r3) := by rw [if_pos rfl] at H; exact H); (clear H); (have H := H1); (clear H1); (replace H := Option.bind_eq_some_iff.mp H); (obtain ⟨t208, A90, H⟩ := H); (replace H : (key_Meet.j0 k (!t208) a0_0 a0_1 a1_0 a1_1) = some (r1, r2, r3) := H); (have A9 := Aside0.mk A90); (clear A90); (have H' := Aside0.mk H); (clear H); (have hnb10 := NB204_205.out); (have hnc10 := NB205_204.out); (have hnb11 := NB204_206.out); (have hnc11 := NB206_204.out); (obtain ⟨hcz12_0, hcz12_1, hfz12_0, hfz12_1⟩ := bf2_ BK204)
   go_wp2_with (first | ((with_reducible refine gate_callee (f := 98) rfl ?_); refine goesL_ (some 8) rfl rfl Try.func98 (by kernel_rfl) rfl #[.agg #[.string a0_0, .string a0_1]] rfl (by (try simp only [List.map_toArray, List.map_cons, List.map_nil]); first | done | rfl) ?_; (with_reducible refine (key_RightRange.calls a0_0 a0_1 true _ A7.out).mono ?_); rintro e w13 ⟨rfl, hb⟩; refine ⟨_, rfl, ?_⟩; have n0_ := Aside0.mk (blk_below (q34_1) hb); have n1_ := Aside0.mk (blk_below (q34_3) hb); have n2_ := Aside0.mk (blk_below (q34_5) hb); have n3_ := Aside0.mk (below_step (q34_6) hb); clear BK204; clear BK205; clear BK206; clear HB; have BK204 := n0_; have BK205 := n1_; have BK206 := n2_; have HB := n3_; clear n0_ n1_ n2_ n3_; (try clear hb); (try clear hb2); (try clear hk); (try clear hi); have hnb14 := NB205_206.out; have hnc14 := NB206_205.out; obtain ⟨hcz15_0, hcz15_1, hfz15_0, hfz15_1⟩ := bf2_ BK205) | (go_at_call 98; (with_reducible refine (key_RightRange.calls a1_0 a1_1 t208 _ A9.out).mono ?_); rintro e w16 ⟨rfl, hb⟩; have n0_ := Aside0.mk (blk_below (q34_1) hb); have n1_ := Aside0.mk (blk_below (q34_3) hb); have n2_ := Aside0.mk (blk_below (q34_5) hb); have n3_ := Aside0.mk (below_step (q34_6) hb); clear BK204; clear BK205; clear BK206; clear HB; have BK204 := n0_; have BK205 := n1_; have BK206 := n2_; have HB := n3_; clear n0_ n1_ n2_ n3_; (try clear hb); (try clear hb2); (try clear hk); (try clear hi)))
   go_meet
   case rel => exact ⟨_, (!t208), (by first | rfl | (simp; done) | (simp [*]; done)), H', ⟨by first | omega | exact Nat.le_refl _⟩, ⟨q34_1⟩, ⟨q34_3⟩, ⟨q34_5⟩, ⟨q34_6⟩⟩
  ·replace c8 := Bool.eq_false_iff.mpr c8
   (subst c8); (have H1 : (key_Meet.j0 k true a0_0 a0_1 a1_0 a1_1) = some (r1, r2, r3) := by rw [if_neg (show ¬ (false = true) by decide)] at H; exact H); (clear H); (have H := H1); (clear H1); (have H' := Aside0.mk H); (clear H); (have hnb17 := NB204_205.out); (have hnc17 := NB205_204.out); (have hnb18 := NB204_206.out); (have hnc18 := NB206_204.out); (obtain ⟨hcz19_0, hcz19_1, hfz19_0, hfz19_1⟩ := bf2_ BK204)
   go_wp2_with (first | ((with_reducible refine gate_callee (f := 98) rfl ?_); refine goesL_ (some 8) rfl rfl Try.func98 (by kernel_rfl) rfl #[.agg #[.string a0_0, .string a0_1]] rfl (by (try simp only [List.map_toArray, List.map_cons, List.map_nil]); first | done | rfl) ?_; (with_reducible refine (key_RightRange.calls a0_0 a0_1 false _ A7.out).mono ?_); rintro e w20 ⟨rfl, hb⟩; refine ⟨_, rfl, ?_⟩; have n0_ := Aside0.mk (blk_below (q34_1) hb); have n1_ := Aside0.mk (blk_below (q34_3) hb); have n2_ := Aside0.mk (blk_below (q34_5) hb); have n3_ := Aside0.mk (below_step (q34_6) hb); clear BK204; clear BK205; clear BK206; clear HB; have BK204 := n0_; have BK205 := n1_; have BK206 := n2_; have HB := n3_; clear n0_ n1_ n2_ n3_; (try clear hb); (try clear hb2); (try clear hk); (try clear hi)))
   go_meet
   case rel => exact ⟨_, (true), (by first | rfl | (simp; done) | (simp [*]; done)), H', ⟨by first | omega | exact Nat.le_refl _⟩, ⟨q34_1⟩, ⟨q34_3⟩, ⟨q34_5⟩, ⟨q34_6⟩⟩
 case rest =>
  (clear HC3); (try clear c1); (try clear p2); (try clear c8); (try clear c9); (try clear c10); (try clear c11); (try clear c13); (try clear c14); (try clear c17); (try clear c18); (try clear hcz12_0); (try clear hcz12_1); (try clear hcz15_0); (try clear hcz15_1); (try clear hcz19_0); (try clear hcz19_1); (try clear hfz12_0); (try clear hfz12_1); (try clear hfz15_0); (try clear hfz15_1); (try clear hfz19_0); (try clear hfz19_1); (obtain ⟨kq, x14_2, rfl, HA, HJ2, BK204, BK205, BK206, HB⟩ := hcut)
  cases kq with
  | zero => exact absurd HA.out (by simp [key_Meet.j0])
  | succ kj2 =>
   (have H := HA.out); (clear HA); (simp only [key_Meet.j0] at H); (by_cases c21 : x14_2 = true)
   ·subst c21
    (have H1 : (some ((⟨#[]⟩ : ByteArray), (⟨#[]⟩ : ByteArray), false)) = some (r1, r2, r3) := by rw [if_pos rfl] at H; exact H); (clear H); (have H := H1); (clear H1); (simp only [Option.some.injEq, Prod.mk.injEq] at H); (obtain ⟨rfl, rfl, rfl⟩ := H); (have hnb22 := NB206_204.out); (have hnc22 := NB204_206.out); (have hnb23 := NB206_205.out); (have hnc23 := NB205_206.out); (obtain ⟨hcz24_0, hcz24_1, hfz24_0, hfz24_1⟩ := bf2_ BK206); (go_wp2)
    (refine bodyPost_ret (results_ct rfl _ _ gb206 48 #[.string ⟨#[]⟩, .string ⟨#[]⟩] (0, 0) _ rfl (q34_7) Try.underlying48 rfl (by kernel_rfl)) rfl ?_); (exact ⟨by first | rfl | (simp [*, errW_none, errW_some] <;> rfl), q34_6⟩)
   ·replace c21 := Bool.eq_false_iff.mpr c21
    (subst c21); (have H1 : ((key_First.f a0_1 a1_1).bind fun t209 => ((key_RightRange.f (smx a0_0 a1_0) t209).bind fun t211 => (if t211 = true then (some (smx a0_0 a1_0, t209, true)) else (some ((⟨#[]⟩ : ByteArray), (⟨#[]⟩ : ByteArray), false))))) = some (r1, r2, r3) := by rw [if_neg (show ¬ (false = true) by decide)] at H; exact H); (clear H); (have H := H1); (clear H1); (replace H := Option.bind_eq_some_iff.mp H); (obtain ⟨t209, A250, H⟩ := H); (replace H : ((key_RightRange.f (smx a0_0 a1_0) t209).bind fun t211 => (if t211 = true then (some (smx a0_0 a1_0, t209, true)) else (some ((⟨#[]⟩ : ByteArray), (⟨#[]⟩ : ByteArray), false)))) = some (r1, r2, r3) := H); (have A25 := Aside0.mk A250); (clear A250); (replace H := Option.bind_eq_some_iff.mp H); (obtain ⟨t211, A260, H⟩ := H); (replace H : (if t211 = true then (some (smx a0_0 a1_0, t209, true)) else (some ((⟨#[]⟩ : ByteArray), (⟨#[]⟩ : ByteArray), false))) = some (r1, r2, r3) := H); (have A26 := Aside0.mk A260); (clear A260); (by_cases c27 : t211 = true)
    ·subst c27
     (have H1 : (some (smx a0_0 a1_0, t209, true)) = some (r1, r2, r3) := by rw [if_pos rfl] at H; exact H); (clear H); (have H := H1); (clear H1); (simp only [Option.some.injEq, Prod.mk.injEq] at H); (obtain ⟨rfl, rfl, rfl⟩ := H); (try go_wp2); (have n0_ := Aside0.mk (blk_drew BK204.out)); (have n1_ := Aside0.mk (blk_drew BK205.out)); (have n2_ := Aside0.mk (blk_drew BK206.out)); (have n3_ := Aside0.mk (below_drew1 HB.out)); (clear BK204 BK205 BK206 HB); (have BK204 := n0_); (have BK205 := n1_); (have BK206 := n2_); (have HB := n3_); (clear n0_ n1_ n2_ n3_); (refine start_ (n := 13) (S := fun w' => w'.cell? ⟨gb204, 0, none⟩ = some (.string a0_0) ∧ w'.cell? ⟨gb204, 1, none⟩ = some (.string a0_1) ∧ w'.cell? ⟨gb205, 0, none⟩ = some (.string a1_0) ∧ w'.cell? ⟨gb205, 1, none⟩ = some (.string a1_1)) (ds := []) #[false, false, false, false, false, false, false, false, false, false, false, false, false] (by kernel_rfl) rfl rfl ⟨(b_ BK204 0), (b_ BK204 1), (b_ BK205 0), (b_ BK205 1)⟩ (fun hHeld => ?_); refine with_tabW key_Meet.tab3 key_Meet.bits3 (fun HT_ HW_ => ?_))
     (generalize wc.drew = w28 at BK204 BK205 BK206 HB hHeld ⊢); (refine puA_ (i := 0) (N := some 16) (v := ?_) (a' := ?_) #[true, false, false, false, false, false, false, false, false, false, false, false, false] HT_.out rfl rfl (.inl ⟨by rfl, ?_⟩) ?_ ?_; rotate_left)
     ·intro w'; go_simp; with_reducible rfl
     rotate_left
     ·simp only [pt_, pn_, sz_, ss_, i64_w, i32_w]; rfl
     refine puA_ (i := 2) (N := some 18) (v := ?_) (a' := ?_) #[true, false, true, false, false, false, false, false, false, false, false, false, false] HT_.out rfl rfl (.inl ⟨by rfl, ?_⟩) ?_ ?_; rotate_left
     ·intro w'; go_simp; with_reducible rfl
     rotate_left
     ·simp only [pt_, pn_, sz_, ss_, i64_w, i32_w]; rfl
     refine puA_ (i := 5) (N := some 21) (v := ?_) (a' := ?_) #[true, false, true, false, false, true, false, false, false, false, false, false, false] HT_.out rfl rfl (.inl ⟨by rfl, ?_⟩) ?_ ?_; rotate_left
     ·intro w'; go_simp; with_reducible rfl
     rotate_left
     ·simp only [pt_, pn_, sz_, ss_, i64_w, i32_w]; rfl
     refine puA_ (i := 7) (N := some 23) (v := ?_) (a' := ?_) #[true, false, true, false, false, true, false, true, false, false, false, false, false] HT_.out rfl rfl (.inl ⟨by rfl, ?_⟩) ?_ ?_; rotate_left
     ·intro w'; go_simp; with_reducible rfl
     rotate_left
     ·simp only [pt_, pn_, sz_, ss_, i64_w, i32_w]; rfl
     refine taA_ (i := 1) (N := some 17) (v := ?_) (a' := ?_) #[true, true, true, false, false, true, false, true, false, false, false, false, false] HT_.out HW_.out rfl rfl (.inl ⟨by rfl, ?_⟩) hHeld ?_ ?_; rotate_left
     ·rintro w' ⟨s0, s1, s2, s3⟩; go_simp; with_reducible rfl
     rotate_left
     ·simp only [pt_, pn_, sz_, ss_, i64_w, i32_w]; rfl
     refine taA_ (i := 3) (N := some 19) (v := ?_) (a' := ?_) #[true, true, true, true, false, true, false, true, false, false, false, false, false] HT_.out HW_.out rfl rfl (.inl ⟨by rfl, ?_⟩) hHeld ?_ ?_; rotate_left
     ·rintro w' ⟨s0, s1, s2, s3⟩; go_simp; with_reducible rfl
     rotate_left
     ·simp only [pt_, pn_, sz_, ss_, i64_w, i32_w]; rfl
     refine puA_ (i := 4) (N := some 20) (v := ?_) (a' := ?_) #[true, true, true, true, true, true, false, true, false, false, false, false, false] HT_.out rfl rfl (.inl ⟨by rfl, ?_⟩) ?_ ?_; rotate_left
     ·intro w'; go_simp; with_reducible rfl
     rotate_left
     ·simp only [pt_, pn_, sz_, ss_, i64_w, i32_w]; rfl
     refine taA_ (i := 6) (N := some 22) (v := ?_) (a' := ?_) #[true, true, true, true, true, true, true, true, false, false, false, false, false] HT_.out HW_.out rfl rfl (.inl ⟨by rfl, ?_⟩) hHeld ?_ ?_; rotate_left
     ·rintro w' ⟨s0, s1, s2, s3⟩; go_simp; with_reducible rfl
     rotate_left
     ·simp only [pt_, pn_, sz_, ss_, i64_w, i32_w]; rfl
     refine taA_ (i := 8) (N := some 24) (v := ?_) (a' := ?_) #[true, true, true, true, true, true, true, true, true, false, false, false, false] HT_.out HW_.out rfl rfl (.inl ⟨by rfl, ?_⟩) hHeld ?_ ?_; rotate_left
     ·rintro w' ⟨s0, s1, s2, s3⟩; go_simp; with_reducible rfl
     rotate_left
     ·simp only [pt_, pn_, sz_, ss_, i64_w, i32_w]; rfl
     refine join_ (σ := Nat) 1 #[true, true, true, true, true, true, true, true, true, true, true, true, false] (fun s_ => [(25, .string t209), (6, .pointer (some ⟨s_, 0, none⟩)), (26, .agg #[.string (smx a0_0 a1_0), .string t209])]) (fun s_ w' => (w'.cell? ⟨gb204, 0, none⟩ = some (.string a0_0) ∧ w'.cell? ⟨gb204, 1, none⟩ = some (.string a0_1) ∧ w'.cell? ⟨gb205, 0, none⟩ = some (.string a1_0) ∧ w'.cell? ⟨gb205, 1, none⟩ = some (.string a1_1)) ∧ (w'.heap[gb204]? = some (.cells #[.string a0_0, .string a0_1] 48 (0, 0))) ∧ (w'.heap[gb205]? = some (.cells #[.string a1_0, .string a1_1] 48 (0, 0))) ∧ (w'.heap[gb206]? = some (.cells #[.string ⟨#[]⟩, .string ⟨#[]⟩] 48 (0, 0))) ∧ (w'.heap[s_]? = some (.cells #[.string ⟨#[]⟩, .string ⟨#[]⟩] 48 (0, 0))) ∧ (w.heap.size ≤ s_) ∧ (w.heap.size ≤ s_) ∧ (gb204 ≠ s_) ∧ (s_ ≠ gb204) ∧ (gb205 ≠ s_) ∧ (s_ ≠ gb205) ∧ (gb206 ≠ s_) ∧ (s_ ≠ gb206) ∧ (Below w.heap.size w w')) ?_ ?_
     rotate_left
     ·intro hCont
      refine two_ (i := 9) (j := 11) (Ni := some 25) (Nj := some 6) #[true, true, true, true, true, true, true, true, true, true, false, false, false] #[true, true, true, true, true, true, true, true, true, false, false, true, false] rfl rfl rfl rfl (two_of HT_.out (by kernel_rfl)) (by decide) (by decide) (fun K hK => ?_) (fun K hK => ?_)
      ·skip
       (refine goes_ Try.func159 (by kernel_rfl) rfl #[.string a0_1, .string a1_1] (by rfl) rfl rfl (by (try simp only [List.map_toArray, List.map_cons, List.map_nil]); first | done | rfl) ?_); (with_reducible refine (key_First.calls a0_1 a1_1 t209 _ A25.out).mono ?_); (rintro e w' ⟨rfl, ⟨nd, rfl⟩⟩); (refine ⟨_, rfl, ?_⟩); (refine hK.out _ _ q34_8 (fun hHeld => ?_)); (clear hK K); (refine norm_ (a' := ?_) ?_ ?_)
       rotate_left
       ·show Act.put _ (some 25) _ = _
        (simp only [pt_, pn_, sz_, ss_, i64_w, i32_w]); (rfl)
       refine puA_ (i := 10) (N := some 26) (v := ?_) (a' := ?_) #[true, true, true, true, true, true, true, true, true, true, true, false, false] HT_.out rfl rfl (.inl ⟨by rfl, ?_⟩) ?_ ?_; rotate_left
       ·intro w'; go_simp; with_reducible rfl
       rotate_left
       ·simp only [pt_, pn_, sz_, ss_, i64_w, i32_w]; rfl
       (refine one_ (i := 11) (N := some 6) #[true, true, true, true, true, true, true, true, true, true, true, true, false] rfl rfl (one_of HT_.out (by kernel_rfl)) (by decide) (fun K hK => ?_)); (refine box_step ?hg (N := 6) ?hd (cs := #[.string ⟨#[]⟩, .string ⟨#[]⟩]) (t := 48) ?hr ?_; (case hd => rfl); (case hg => rfl); (case hr => first | (go_simp; done) | (go_simp; rfl))); (intro gb210 hg w29 hbox hb); (have n0_ := Aside0.mk (blk_below (q34_1) hb)); (have n1_ := Aside0.mk (blk_below (q34_3) hb)); (have n2_ := Aside0.mk (blk_below (q34_5) hb))
       (have n3_ := Aside0.mk (below_step (q34_6) hb)); (have n4_ := Aside0.mk (hbox)); (have n5_ := Aside0.mk (hs_ hg (q34_6))); (have n6_ := n5_); (have n7_ := Aside0.mk (nl_ hg (q34_1)))
       (have n8_ := Aside0.mk (ng_ hg (q34_1))); (have n9_ := Aside0.mk (nl_ hg (q34_3))); (have n10_ := Aside0.mk (ng_ hg (q34_3))); (have n11_ := Aside0.mk (nl_ hg (q34_5)))
       (have n12_ := Aside0.mk (ng_ hg (q34_5))); (clear BK204 BK205 BK206 HB); (have BK204 := n0_); (have BK205 := n1_); (have BK206 := n2_); (have HB := n3_); (have BK210 := n4_); (have GW210 := n5_); (have GE210 := n6_); (have NB204_210 := n7_); (have NB210_204 := n8_); (have NB205_210 := n9_); (have NB210_205 := n10_); (have NB206_210 := n11_); (have NB210_206 := n12_); (clear n0_ n1_ n2_ n3_ n4_ n5_ n6_ n7_ n8_ n9_ n10_ n11_ n12_ hb hbox hg); (refine hK.out _ _ q34_8 (fun hHeld => ?_)); (clear hK K); (refine norm_ (a' := ?_) ?_ ?_)
       rotate_left
       ·show Act.put _ (some 6) _ = _
        (simp only [pt_, pn_, sz_, ss_, i64_w, i32_w]); (rfl)
       exact norm_ (q34_9) (hCont (gb210) _ ⟨hHeld, (q34_1), (q34_3), (q34_5), (q34_10), GW210.out, GE210.out, NB204_210.out, NB210_204.out, NB205_210.out, NB210_205.out, NB206_210.out, NB210_206.out, (q34_11)⟩)
      ·skip
       (refine box_step ?hg (N := 6) ?hd (cs := #[.string ⟨#[]⟩, .string ⟨#[]⟩]) (t := 48) ?hr ?_; (case hd => rfl); (case hg => rfl); (case hr => first | (go_simp; done) | (go_simp; rfl))); (intro gb210 hg w29 hbox hb); (have n0_ := Aside0.mk (blk_below (q34_1) hb)); (have n1_ := Aside0.mk (blk_below (q34_3) hb)); (have n2_ := Aside0.mk (blk_below (q34_5) hb)); (have n3_ := Aside0.mk (below_step (q34_6) hb)); (have n4_ := Aside0.mk (hbox))
       (have n5_ := Aside0.mk (hs_ hg (q34_6))); (have n6_ := n5_); (have n7_ := Aside0.mk (nl_ hg (q34_1))); (have n8_ := Aside0.mk (ng_ hg (q34_1)))
       (have n9_ := Aside0.mk (nl_ hg (q34_3))); (have n10_ := Aside0.mk (ng_ hg (q34_3))); (have n11_ := Aside0.mk (nl_ hg (q34_5))); (have n12_ := Aside0.mk (ng_ hg (q34_5))); (clear BK204 BK205 BK206 HB); (have BK204 := n0_); (have BK205 := n1_); (have BK206 := n2_)
       (have HB := n3_); (have BK210 := n4_); (have GW210 := n5_); (have GE210 := n6_); (have NB204_210 := n7_); (have NB210_204 := n8_); (have NB205_210 := n9_); (have NB210_205 := n10_); (have NB206_210 := n11_); (have NB210_206 := n12_); (clear n0_ n1_ n2_ n3_ n4_ n5_ n6_ n7_ n8_ n9_ n10_ n11_ n12_ hb hbox hg); (refine hK.out _ _ q34_8 (fun hHeld => ?_)); (clear hK K); (refine norm_ (a' := ?_) ?_ ?_)
       rotate_left
       ·show Act.put _ (some 6) _ = _
        (simp only [pt_, pn_, sz_, ss_, i64_w, i32_w]); (rfl)
       (refine one_ (i := 9) (N := some 25) #[true, true, true, true, true, true, true, true, true, true, false, true, false] rfl rfl (one_of HT_.out (by kernel_rfl)) (by decide) (fun K hK => ?_)); (refine goes_ Try.func159 (by kernel_rfl) rfl #[.string a0_1, .string a1_1] (by rfl) rfl rfl (by (try simp only [List.map_toArray, List.map_cons, List.map_nil]); first | done | rfl) ?_); (with_reducible refine (key_First.calls a0_1 a1_1 t209 _ A25.out).mono ?_); (rintro e w' ⟨rfl, ⟨nd, rfl⟩⟩); (refine ⟨_, rfl, ?_⟩); (refine hK.out _ _ q34_8 (fun hHeld => ?_)); (clear hK K); (refine norm_ (a' := ?_) ?_ ?_)
       rotate_left
       ·show Act.put _ (some 25) _ = _
        (simp only [pt_, pn_, sz_, ss_, i64_w, i32_w]); (rfl)
       refine puA_ (i := 10) (N := some 26) (v := ?_) (a' := ?_) #[true, true, true, true, true, true, true, true, true, true, true, true, false] HT_.out rfl rfl (.inl ⟨by rfl, ?_⟩) ?_ ?_; rotate_left
       ·intro w'; go_simp; with_reducible rfl
       rotate_left
       ·simp only [pt_, pn_, sz_, ss_, i64_w, i32_w]; rfl
       exact norm_ (q34_9) (hCont (gb210) _ ⟨hHeld, (q34_1), (q34_3), (q34_5), (q34_10), GW210.out, GE210.out, NB204_210.out, NB210_204.out, NB205_210.out, NB210_205.out, NB206_210.out, NB210_206.out, (q34_11)⟩)
     (rintro gb210 w30 ⟨hS_, h0_, h1_, h2_, h3_, h4_, h5_, h6_, h7_, h8_, h9_, h10_, h11_, h12_⟩); (have n0_ : Aside0 (w30.heap[gb204]? = some (.cells #[.string a0_0, .string a0_1] 48 (0, 0))) := ⟨h0_⟩); (have n1_ : Aside0 (w30.heap[gb205]? = some (.cells #[.string a1_0, .string a1_1] 48 (0, 0))) := ⟨h1_⟩); (have n2_ : Aside0 (w30.heap[gb206]? = some (.cells #[.string ⟨#[]⟩, .string ⟨#[]⟩] 48 (0, 0))) := ⟨h2_⟩); (have n3_ : Aside0 (w30.heap[gb210]? = some (.cells #[.string ⟨#[]⟩, .string ⟨#[]⟩] 48 (0, 0))) := ⟨h3_⟩); (have n4_ : Aside0 (w.heap.size ≤ gb210) := ⟨h4_⟩); (have n5_ : Aside0 (w.heap.size ≤ gb210) := ⟨h5_⟩); (have n6_ : Aside0 (gb204 ≠ gb210) := ⟨h6_⟩); (have n7_ : Aside0 (gb210 ≠ gb204) := ⟨h7_⟩); (have n8_ : Aside0 (gb205 ≠ gb210) := ⟨h8_⟩); (have n9_ : Aside0 (gb210 ≠ gb205) := ⟨h9_⟩); (have n10_ : Aside0 (gb206 ≠ gb210) := ⟨h10_⟩); (have n11_ : Aside0 (gb210 ≠ gb206) := ⟨h11_⟩); (have n12_ : Aside0 (Below w.heap.size w w30) := ⟨h12_⟩); (clear BK204 BK205 BK206 HB h0_ h1_ h2_ h3_ h4_ h5_ h6_ h7_ h8_ h9_ h10_ h11_ h12_); (have BK204 := n0_); (have BK205 := n1_); (have BK206 := n2_); (have BK210 := n3_)
     (have GW210 := n4_); (have GE210 := n5_); (have NB204_210 := n6_); (have NB210_204 := n7_); (have NB205_210 := n8_); (have NB210_205 := n9_); (have NB206_210 := n10_); (have NB210_206 := n11_); (have HB := n12_); (clear n0_ n1_ n2_ n3_ n4_ n5_ n6_ n7_ n8_ n9_ n10_ n11_ n12_); (have hHeld := hS_); (refine norm_ (a' := ?_) ?_ ?_)
     rotate_left
     ·simp only [putAll, Act.put, List.setIfInBounds_toArray, List.set_cons_zero, List.set_cons_succ]
      rfl
     (refine one_ (i := 12) (N := none) #[true, true, true, true, true, true, true, true, true, true, true, true, true] rfl rfl (one_of HT_.out (by kernel_rfl)) (by decide) (fun K hK => ?_)); (have hs31 : w30.cell? ⟨gb210, 0, none⟩ = some (.string ⟨#[]⟩) := (b_ BK210 0)); (have hfs31 := blk_frozen BK210.out 0); (have hns31_0 := NB204_210.out); (have hns31_1 := NB205_210.out); (have hns31_2 := NB206_210.out); (have hms31_0 := NB210_204.out); (have hms31_1 := NB210_205.out); (have hms31_2 := NB210_206.out); (have hs32 : w30.cell? ⟨gb210, 1, none⟩ = some (.string ⟨#[]⟩) := (b_ BK210 1)); (have hfs32 := blk_frozen BK210.out 1); (have hns32_0 := NB204_210.out); (have hns32_1 := NB205_210.out); (have hns32_2 := NB206_210.out); (have hms32_0 := NB210_204.out); (have hms32_1 := NB210_205.out); (have hms32_2 := NB210_206.out); (refine skip_ (w1 := ?_) (by rfl) rfl ?_ ?_)
     rotate_left
     ·go_simp
      rfl
     (refine hK.out _ _ q34_12 (fun hHeld => ?_)); (clear hK K); (refine done_ (done_of HT_.out (by kernel_rfl)) ?_); (have hnb33 := NB210_204.out); (have hnc33 := NB204_210.out); (have hnb34 := NB210_205.out); (have hnc34 := NB205_210.out); (have hnb35 := NB210_206.out); (have hnc35 := NB206_210.out); (obtain ⟨hcz36_0, hcz36_1, hfz36_0, hfz36_1⟩ := bf2_ BK210)
     try go_wp2_with (first | ((with_reducible refine gate_callee (f := 98) rfl ?_); refine goesL_ (some 28) rfl rfl Try.func98 (by kernel_rfl) rfl #[.agg #[.string (smx a0_0 a1_0), .string t209]] rfl (by (try simp only [List.map_toArray, List.map_cons, List.map_nil]); first | done | rfl) ?_; (with_reducible refine (key_RightRange.calls (smx a0_0 a1_0) t209 true _ A26.out).mono ?_); rintro e w37 ⟨rfl, hb⟩; refine ⟨_, rfl, ?_⟩; have n0_ := Aside0.mk (blk_below (g := gb204) (o := .cells #[.string a0_0, .string a0_1] 48 (0, 0)) (q34_13) hb); have n1_ := Aside0.mk (blk_below (g := gb205) (o := .cells #[.string a1_0, .string a1_1] 48 (0, 0)) (q34_14) hb); have n2_ := Aside0.mk (blk_below (g := gb206) (o := .cells #[.string ⟨#[]⟩, .string ⟨#[]⟩] 48 (0, 0)) (q34_15) hb); have n3_ := Aside0.mk (blk_below (g := gb210) (o := .cells #[.string (smx a0_0 a1_0), .string t209] 48 (0, 0)) (q34_16) hb); have n4_ := Aside0.mk (below_step (q34_11) hb); clear BK204; clear BK205; clear BK206; clear BK210; clear HB; have BK204 := n0_; have BK205 := n1_; have BK206 := n2_; have BK210 := n3_; have HB := n4_; clear n0_ n1_ n2_ n3_ n4_; (try clear hb); (try clear hb2); (try clear hk); (try clear hi); obtain ⟨hcz38_0, hcz38_1, hfz38_0, hfz38_1⟩ := bf2_ BK210; have hnb39 := NB206_204.out; have hnc39 := NB204_206.out; have hnb40 := NB206_205.out; have hnc40 := NB205_206.out; obtain ⟨hcz41_0, hcz41_1, hfz41_0, hfz41_1⟩ := bf2_ BK206))
     (refine bodyPost_ret (results_ct rfl _ _ gb206 48 #[.string (smx a0_0 a1_0), .string t209] (0, 0) _ rfl (by (with_reducible repeat first | apply z1_ | apply z2_ | apply z3_); refine blk_put (cs := #[.string (smx a0_0 a1_0), .string ⟨#[]⟩]) ?_ 1 _ rfl; (with_reducible repeat first | apply z1_ | apply z2_ | apply z3_); refine blk_put (cs := #[.string ⟨#[]⟩, .string ⟨#[]⟩]) ?_ 0 _ rfl; (with_reducible repeat first | apply z1_ | apply z2_ | apply z3_); exact BK206.out) Try.underlying48 rfl (by kernel_rfl)) rfl ?_); (exact ⟨by first | rfl | (simp [*, errW_none, errW_some] <;> rfl), q34_11⟩)
    ·replace c27 := Bool.eq_false_iff.mpr c27
     (subst c27); (have H1 : (some ((⟨#[]⟩ : ByteArray), (⟨#[]⟩ : ByteArray), false)) = some (r1, r2, r3) := by rw [if_neg (show ¬ (false = true) by decide)] at H; exact H); (clear H); (have H := H1); (clear H1); (simp only [Option.some.injEq, Prod.mk.injEq] at H); (obtain ⟨rfl, rfl, rfl⟩ := H); (try go_wp2); (have n0_ := Aside0.mk (blk_drew BK204.out)); (have n1_ := Aside0.mk (blk_drew BK205.out)); (have n2_ := Aside0.mk (blk_drew BK206.out)); (have n3_ := Aside0.mk (below_drew1 HB.out)); (clear BK204 BK205 BK206 HB); (have BK204 := n0_); (have BK205 := n1_); (have BK206 := n2_); (have HB := n3_); (clear n0_ n1_ n2_ n3_)
     (refine start_ (n := 13) (S := fun w' => w'.cell? ⟨gb204, 0, none⟩ = some (.string a0_0) ∧ w'.cell? ⟨gb204, 1, none⟩ = some (.string a0_1) ∧ w'.cell? ⟨gb205, 0, none⟩ = some (.string a1_0) ∧ w'.cell? ⟨gb205, 1, none⟩ = some (.string a1_1)) (ds := []) #[false, false, false, false, false, false, false, false, false, false, false, false, false] (by kernel_rfl) rfl rfl ⟨(b_ BK204 0), (b_ BK204 1), (b_ BK205 0), (b_ BK205 1)⟩ (fun hHeld => ?_); refine with_tabW key_Meet.tab3 key_Meet.bits3 (fun HT_ HW_ => ?_)); (generalize wc.drew = w42 at BK204 BK205 BK206 HB hHeld ⊢); (refine puA_ (i := 0) (N := some 16) (v := ?_) (a' := ?_) #[true, false, false, false, false, false, false, false, false, false, false, false, false] HT_.out rfl rfl (.inl ⟨by rfl, ?_⟩) ?_ ?_; rotate_left)
     ·intro w'; go_simp; with_reducible rfl
     rotate_left
     ·simp only [pt_, pn_, sz_, ss_, i64_w, i32_w]; rfl
     refine puA_ (i := 2) (N := some 18) (v := ?_) (a' := ?_) #[true, false, true, false, false, false, false, false, false, false, false, false, false] HT_.out rfl rfl (.inl ⟨by rfl, ?_⟩) ?_ ?_; rotate_left
     ·intro w'; go_simp; with_reducible rfl
     rotate_left
     ·simp only [pt_, pn_, sz_, ss_, i64_w, i32_w]; rfl
     refine puA_ (i := 5) (N := some 21) (v := ?_) (a' := ?_) #[true, false, true, false, false, true, false, false, false, false, false, false, false] HT_.out rfl rfl (.inl ⟨by rfl, ?_⟩) ?_ ?_; rotate_left
     ·intro w'; go_simp; with_reducible rfl
     rotate_left
     ·simp only [pt_, pn_, sz_, ss_, i64_w, i32_w]; rfl
     refine puA_ (i := 7) (N := some 23) (v := ?_) (a' := ?_) #[true, false, true, false, false, true, false, true, false, false, false, false, false] HT_.out rfl rfl (.inl ⟨by rfl, ?_⟩) ?_ ?_; rotate_left
     ·intro w'; go_simp; with_reducible rfl
     rotate_left
     ·simp only [pt_, pn_, sz_, ss_, i64_w, i32_w]; rfl
     refine taA_ (i := 1) (N := some 17) (v := ?_) (a' := ?_) #[true, true, true, false, false, true, false, true, false, false, false, false, false] HT_.out HW_.out rfl rfl (.inl ⟨by rfl, ?_⟩) hHeld ?_ ?_; rotate_left
     ·rintro w' ⟨s0, s1, s2, s3⟩; go_simp; with_reducible rfl
     rotate_left
     ·simp only [pt_, pn_, sz_, ss_, i64_w, i32_w]; rfl
     refine taA_ (i := 3) (N := some 19) (v := ?_) (a' := ?_) #[true, true, true, true, false, true, false, true, false, false, false, false, false] HT_.out HW_.out rfl rfl (.inl ⟨by rfl, ?_⟩) hHeld ?_ ?_; rotate_left
     ·rintro w' ⟨s0, s1, s2, s3⟩; go_simp; with_reducible rfl
     rotate_left
     ·simp only [pt_, pn_, sz_, ss_, i64_w, i32_w]; rfl
     refine puA_ (i := 4) (N := some 20) (v := ?_) (a' := ?_) #[true, true, true, true, true, true, false, true, false, false, false, false, false] HT_.out rfl rfl (.inl ⟨by rfl, ?_⟩) ?_ ?_; rotate_left
     ·intro w'; go_simp; with_reducible rfl
     rotate_left
     ·simp only [pt_, pn_, sz_, ss_, i64_w, i32_w]; rfl
     refine taA_ (i := 6) (N := some 22) (v := ?_) (a' := ?_) #[true, true, true, true, true, true, true, true, false, false, false, false, false] HT_.out HW_.out rfl rfl (.inl ⟨by rfl, ?_⟩) hHeld ?_ ?_; rotate_left
     ·rintro w' ⟨s0, s1, s2, s3⟩; go_simp; with_reducible rfl
     rotate_left
     ·simp only [pt_, pn_, sz_, ss_, i64_w, i32_w]; rfl
     refine taA_ (i := 8) (N := some 24) (v := ?_) (a' := ?_) #[true, true, true, true, true, true, true, true, true, false, false, false, false] HT_.out HW_.out rfl rfl (.inl ⟨by rfl, ?_⟩) hHeld ?_ ?_; rotate_left
     ·rintro w' ⟨s0, s1, s2, s3⟩; go_simp; with_reducible rfl
     rotate_left
     ·simp only [pt_, pn_, sz_, ss_, i64_w, i32_w]; rfl
     refine join_ (σ := Nat) 1 #[true, true, true, true, true, true, true, true, true, true, true, true, false] (fun s_ => [(25, .string t209), (6, .pointer (some ⟨s_, 0, none⟩)), (26, .agg #[.string (smx a0_0 a1_0), .string t209])]) (fun s_ w' => (w'.cell? ⟨gb204, 0, none⟩ = some (.string a0_0) ∧ w'.cell? ⟨gb204, 1, none⟩ = some (.string a0_1) ∧ w'.cell? ⟨gb205, 0, none⟩ = some (.string a1_0) ∧ w'.cell? ⟨gb205, 1, none⟩ = some (.string a1_1)) ∧ (w'.heap[gb204]? = some (.cells #[.string a0_0, .string a0_1] 48 (0, 0))) ∧ (w'.heap[gb205]? = some (.cells #[.string a1_0, .string a1_1] 48 (0, 0))) ∧ (w'.heap[gb206]? = some (.cells #[.string ⟨#[]⟩, .string ⟨#[]⟩] 48 (0, 0))) ∧ (w'.heap[s_]? = some (.cells #[.string ⟨#[]⟩, .string ⟨#[]⟩] 48 (0, 0))) ∧ (w.heap.size ≤ s_) ∧ (w.heap.size ≤ s_) ∧ (gb204 ≠ s_) ∧ (s_ ≠ gb204) ∧ (gb205 ≠ s_) ∧ (s_ ≠ gb205) ∧ (gb206 ≠ s_) ∧ (s_ ≠ gb206) ∧ (Below w.heap.size w w')) ?_ ?_
     rotate_left
     ·intro hCont
      refine two_ (i := 9) (j := 11) (Ni := some 25) (Nj := some 6) #[true, true, true, true, true, true, true, true, true, true, false, false, false] #[true, true, true, true, true, true, true, true, true, false, false, true, false] rfl rfl rfl rfl (two_of HT_.out (by kernel_rfl)) (by decide) (by decide) (fun K hK => ?_) (fun K hK => ?_)
      ·skip
       (refine goes_ Try.func159 (by kernel_rfl) rfl #[.string a0_1, .string a1_1] (by rfl) rfl rfl (by (try simp only [List.map_toArray, List.map_cons, List.map_nil]); first | done | rfl) ?_); (with_reducible refine (key_First.calls a0_1 a1_1 t209 _ A25.out).mono ?_); (rintro e w' ⟨rfl, ⟨nd, rfl⟩⟩); (refine ⟨_, rfl, ?_⟩); (refine hK.out _ _ q34_8 (fun hHeld => ?_)); (clear hK K); (refine norm_ (a' := ?_) ?_ ?_)
       rotate_left
       ·show Act.put _ (some 25) _ = _
        (simp only [pt_, pn_, sz_, ss_, i64_w, i32_w]); (rfl)
       refine puA_ (i := 10) (N := some 26) (v := ?_) (a' := ?_) #[true, true, true, true, true, true, true, true, true, true, true, false, false] HT_.out rfl rfl (.inl ⟨by rfl, ?_⟩) ?_ ?_; rotate_left
       ·intro w'; go_simp; with_reducible rfl
       rotate_left
       ·simp only [pt_, pn_, sz_, ss_, i64_w, i32_w]; rfl
       (refine one_ (i := 11) (N := some 6) #[true, true, true, true, true, true, true, true, true, true, true, true, false] rfl rfl (one_of HT_.out (by kernel_rfl)) (by decide) (fun K hK => ?_)); (refine box_step ?hg (N := 6) ?hd (cs := #[.string ⟨#[]⟩, .string ⟨#[]⟩]) (t := 48) ?hr ?_; (case hd => rfl); (case hg => rfl); (case hr => first | (go_simp; done) | (go_simp; rfl))); (intro gb210 hg w43 hbox hb); (have n0_ := Aside0.mk (blk_below (q34_1) hb)); (have n1_ := Aside0.mk (blk_below (q34_3) hb)); (have n2_ := Aside0.mk (blk_below (q34_5) hb))
       (have n3_ := Aside0.mk (below_step (q34_6) hb)); (have n4_ := Aside0.mk (hbox)); (have n5_ := Aside0.mk (hs_ hg (q34_6))); (have n6_ := n5_); (have n7_ := Aside0.mk (nl_ hg (q34_1)))
       (have n8_ := Aside0.mk (ng_ hg (q34_1))); (have n9_ := Aside0.mk (nl_ hg (q34_3))); (have n10_ := Aside0.mk (ng_ hg (q34_3))); (have n11_ := Aside0.mk (nl_ hg (q34_5)))
       (have n12_ := Aside0.mk (ng_ hg (q34_5))); (clear BK204 BK205 BK206 HB); (have BK204 := n0_); (have BK205 := n1_); (have BK206 := n2_); (have HB := n3_); (have BK210 := n4_); (have GW210 := n5_); (have GE210 := n6_); (have NB204_210 := n7_); (have NB210_204 := n8_); (have NB205_210 := n9_); (have NB210_205 := n10_); (have NB206_210 := n11_); (have NB210_206 := n12_); (clear n0_ n1_ n2_ n3_ n4_ n5_ n6_ n7_ n8_ n9_ n10_ n11_ n12_ hb hbox hg); (refine hK.out _ _ q34_8 (fun hHeld => ?_)); (clear hK K); (refine norm_ (a' := ?_) ?_ ?_)
       rotate_left
       ·show Act.put _ (some 6) _ = _
        (simp only [pt_, pn_, sz_, ss_, i64_w, i32_w]); (rfl)
       exact norm_ (q34_9) (hCont (gb210) _ ⟨hHeld, (q34_1), (q34_3), (q34_5), (q34_10), GW210.out, GE210.out, NB204_210.out, NB210_204.out, NB205_210.out, NB210_205.out, NB206_210.out, NB210_206.out, (q34_11)⟩)
      ·skip
       (refine box_step ?hg (N := 6) ?hd (cs := #[.string ⟨#[]⟩, .string ⟨#[]⟩]) (t := 48) ?hr ?_; (case hd => rfl); (case hg => rfl); (case hr => first | (go_simp; done) | (go_simp; rfl))); (intro gb210 hg w43 hbox hb); (have n0_ := Aside0.mk (blk_below (q34_1) hb)); (have n1_ := Aside0.mk (blk_below (q34_3) hb)); (have n2_ := Aside0.mk (blk_below (q34_5) hb)); (have n3_ := Aside0.mk (below_step (q34_6) hb)); (have n4_ := Aside0.mk (hbox))
       (have n5_ := Aside0.mk (hs_ hg (q34_6))); (have n6_ := n5_); (have n7_ := Aside0.mk (nl_ hg (q34_1))); (have n8_ := Aside0.mk (ng_ hg (q34_1)))
       (have n9_ := Aside0.mk (nl_ hg (q34_3))); (have n10_ := Aside0.mk (ng_ hg (q34_3))); (have n11_ := Aside0.mk (nl_ hg (q34_5))); (have n12_ := Aside0.mk (ng_ hg (q34_5))); (clear BK204 BK205 BK206 HB); (have BK204 := n0_); (have BK205 := n1_); (have BK206 := n2_)
       (have HB := n3_); (have BK210 := n4_); (have GW210 := n5_); (have GE210 := n6_); (have NB204_210 := n7_); (have NB210_204 := n8_); (have NB205_210 := n9_); (have NB210_205 := n10_); (have NB206_210 := n11_); (have NB210_206 := n12_); (clear n0_ n1_ n2_ n3_ n4_ n5_ n6_ n7_ n8_ n9_ n10_ n11_ n12_ hb hbox hg); (refine hK.out _ _ q34_8 (fun hHeld => ?_)); (clear hK K); (refine norm_ (a' := ?_) ?_ ?_)
       rotate_left
       ·show Act.put _ (some 6) _ = _
        (simp only [pt_, pn_, sz_, ss_, i64_w, i32_w]); (rfl)
       (refine one_ (i := 9) (N := some 25) #[true, true, true, true, true, true, true, true, true, true, false, true, false] rfl rfl (one_of HT_.out (by kernel_rfl)) (by decide) (fun K hK => ?_)); (refine goes_ Try.func159 (by kernel_rfl) rfl #[.string a0_1, .string a1_1] (by rfl) rfl rfl (by (try simp only [List.map_toArray, List.map_cons, List.map_nil]); first | done | rfl) ?_); (with_reducible refine (key_First.calls a0_1 a1_1 t209 _ A25.out).mono ?_); (rintro e w' ⟨rfl, ⟨nd, rfl⟩⟩); (refine ⟨_, rfl, ?_⟩); (refine hK.out _ _ q34_8 (fun hHeld => ?_)); (clear hK K); (refine norm_ (a' := ?_) ?_ ?_)
       rotate_left
       ·show Act.put _ (some 25) _ = _
        (simp only [pt_, pn_, sz_, ss_, i64_w, i32_w]); (rfl)
       refine puA_ (i := 10) (N := some 26) (v := ?_) (a' := ?_) #[true, true, true, true, true, true, true, true, true, true, true, true, false] HT_.out rfl rfl (.inl ⟨by rfl, ?_⟩) ?_ ?_; rotate_left
       ·intro w'; go_simp; with_reducible rfl
       rotate_left
       ·simp only [pt_, pn_, sz_, ss_, i64_w, i32_w]; rfl
       exact norm_ (q34_9) (hCont (gb210) _ ⟨hHeld, (q34_1), (q34_3), (q34_5), (q34_10), GW210.out, GE210.out, NB204_210.out, NB210_204.out, NB205_210.out, NB210_205.out, NB206_210.out, NB210_206.out, (q34_11)⟩)
     (rintro gb210 w44 ⟨hS_, h0_, h1_, h2_, h3_, h4_, h5_, h6_, h7_, h8_, h9_, h10_, h11_, h12_⟩); (have n0_ : Aside0 (w44.heap[gb204]? = some (.cells #[.string a0_0, .string a0_1] 48 (0, 0))) := ⟨h0_⟩); (have n1_ : Aside0 (w44.heap[gb205]? = some (.cells #[.string a1_0, .string a1_1] 48 (0, 0))) := ⟨h1_⟩); (have n2_ : Aside0 (w44.heap[gb206]? = some (.cells #[.string ⟨#[]⟩, .string ⟨#[]⟩] 48 (0, 0))) := ⟨h2_⟩); (have n3_ : Aside0 (w44.heap[gb210]? = some (.cells #[.string ⟨#[]⟩, .string ⟨#[]⟩] 48 (0, 0))) := ⟨h3_⟩); (have n4_ : Aside0 (w.heap.size ≤ gb210) := ⟨h4_⟩); (have n5_ : Aside0 (w.heap.size ≤ gb210) := ⟨h5_⟩); (have n6_ : Aside0 (gb204 ≠ gb210) := ⟨h6_⟩); (have n7_ : Aside0 (gb210 ≠ gb204) := ⟨h7_⟩); (have n8_ : Aside0 (gb205 ≠ gb210) := ⟨h8_⟩); (have n9_ : Aside0 (gb210 ≠ gb205) := ⟨h9_⟩); (have n10_ : Aside0 (gb206 ≠ gb210) := ⟨h10_⟩); (have n11_ : Aside0 (gb210 ≠ gb206) := ⟨h11_⟩); (have n12_ : Aside0 (Below w.heap.size w w44) := ⟨h12_⟩); (clear BK204 BK205 BK206 HB h0_ h1_ h2_ h3_ h4_ h5_ h6_ h7_ h8_ h9_ h10_ h11_ h12_); (have BK204 := n0_); (have BK205 := n1_); (have BK206 := n2_); (have BK210 := n3_)
     (have GW210 := n4_); (have GE210 := n5_); (have NB204_210 := n6_); (have NB210_204 := n7_); (have NB205_210 := n8_); (have NB210_205 := n9_); (have NB206_210 := n10_); (have NB210_206 := n11_); (have HB := n12_); (clear n0_ n1_ n2_ n3_ n4_ n5_ n6_ n7_ n8_ n9_ n10_ n11_ n12_); (have hHeld := hS_); (refine norm_ (a' := ?_) ?_ ?_)
     rotate_left
     ·simp only [putAll, Act.put, List.setIfInBounds_toArray, List.set_cons_zero, List.set_cons_succ]
      rfl
     (refine one_ (i := 12) (N := none) #[true, true, true, true, true, true, true, true, true, true, true, true, true] rfl rfl (one_of HT_.out (by kernel_rfl)) (by decide) (fun K hK => ?_)); (have hs45 : w44.cell? ⟨gb210, 0, none⟩ = some (.string ⟨#[]⟩) := (b_ BK210 0)); (have hfs45 := blk_frozen BK210.out 0); (have hns45_0 := NB204_210.out); (have hns45_1 := NB205_210.out); (have hns45_2 := NB206_210.out); (have hms45_0 := NB210_204.out); (have hms45_1 := NB210_205.out); (have hms45_2 := NB210_206.out); (have hs46 : w44.cell? ⟨gb210, 1, none⟩ = some (.string ⟨#[]⟩) := (b_ BK210 1)); (have hfs46 := blk_frozen BK210.out 1); (have hns46_0 := NB204_210.out); (have hns46_1 := NB205_210.out); (have hns46_2 := NB206_210.out); (have hms46_0 := NB210_204.out); (have hms46_1 := NB210_205.out); (have hms46_2 := NB210_206.out); (refine skip_ (w1 := ?_) (by rfl) rfl ?_ ?_)
     rotate_left
     ·go_simp
      rfl
     (refine hK.out _ _ q34_12 (fun hHeld => ?_)); (clear hK K); (refine done_ (done_of HT_.out (by kernel_rfl)) ?_); (have hnb47 := NB210_204.out); (have hnc47 := NB204_210.out); (have hnb48 := NB210_205.out); (have hnc48 := NB205_210.out); (have hnb49 := NB210_206.out); (have hnc49 := NB206_210.out); (obtain ⟨hcz50_0, hcz50_1, hfz50_0, hfz50_1⟩ := bf2_ BK210)
     try go_wp2_with (first | ((with_reducible refine gate_callee (f := 98) rfl ?_); refine goesL_ (some 28) rfl rfl Try.func98 (by kernel_rfl) rfl #[.agg #[.string (smx a0_0 a1_0), .string t209]] rfl (by (try simp only [List.map_toArray, List.map_cons, List.map_nil]); first | done | rfl) ?_; (with_reducible refine (key_RightRange.calls (smx a0_0 a1_0) t209 false _ A26.out).mono ?_); rintro e w51 ⟨rfl, hb⟩; refine ⟨_, rfl, ?_⟩; have n0_ := Aside0.mk (blk_below (g := gb204) (o := .cells #[.string a0_0, .string a0_1] 48 (0, 0)) (q34_13) hb); have n1_ := Aside0.mk (blk_below (g := gb205) (o := .cells #[.string a1_0, .string a1_1] 48 (0, 0)) (q34_14) hb); have n2_ := Aside0.mk (blk_below (g := gb206) (o := .cells #[.string ⟨#[]⟩, .string ⟨#[]⟩] 48 (0, 0)) (q34_15) hb); have n3_ := Aside0.mk (blk_below (g := gb210) (o := .cells #[.string (smx a0_0 a1_0), .string t209] 48 (0, 0)) (q34_16) hb); have n4_ := Aside0.mk (below_step (q34_11) hb); clear BK204; clear BK205; clear BK206; clear BK210; clear HB; have BK204 := n0_; have BK205 := n1_; have BK206 := n2_; have BK210 := n3_; have HB := n4_; clear n0_ n1_ n2_ n3_ n4_; (try clear hb); (try clear hb2); (try clear hk); (try clear hi); have hnb52 := NB206_204.out; have hnc52 := NB204_206.out; have hnb53 := NB206_205.out; have hnc53 := NB205_206.out; obtain ⟨hcz54_0, hcz54_1, hfz54_0, hfz54_1⟩ := bf2_ BK206))
     (refine bodyPost_ret (results_ct rfl _ _ gb206 48 #[.string ⟨#[]⟩, .string ⟨#[]⟩] (0, 0) _ rfl (q34_7) Try.underlying48 rfl (by kernel_rfl)) rfl ?_); (exact ⟨by first | rfl | (simp [*, errW_none, errW_some] <;> rfl), q34_11⟩)

end Go.Proofs.Ytnklnjghecmihaa.L2
