/- tight -/ -- written by wip/myprint.py and wip/pack.py
import Derived.Test.YtnklnjghecmihaaL2x0
import Derived.Test.YtnklnjghecmihaaL2x22
import Derived.Test.YtnklnjghecmihaaL2x42
namespace Go.Proofs.Ytnklnjghecmihaa.L2
open Go.RowKit Go.Proofs.YtnklnjghecmihaaW PrintWords PrintLast PrintMore Mine
attribute [local go_sem] max2_int min2_int max_two min_two max_three min_three max_four min_four max2_str min2_str binOp_gtr_str binOp_leq_str binOp_geq_str
set_option linter.unusedVariables false
set_option linter.unusedSimpArgs false
theorem q23_0 {P : Prop} (h : P := by repeat (first | (with_reducible first | exact HK.out | apply Kept.alloc | apply Kept.drewN | apply Kept.drew) | exact HK.out)) : P := h
/-! ### api_Msg_90: function 90 -/
def api_Msg_90.f (k : Nat) (l0 : List (S46))  : Option ((List (S46))) := (api_Msg_130.f k l0 (l0.length : Int)).bind fun t183 => (some t183)
theorem api_Msg_90.mono : ∀ a0 k, LeO (api_Msg_90.f k a0) (api_Msg_90.f (k + 1) a0) := by
 (intro a0 k); (unfold api_Msg_90.f)
 repeat' (with_reducible first | exact api_Msg_130.mono _ _ _ | exact LeO.refl _ | exact LeO.none _ | refine LeO.ite ?_ ?_ | refine LeO.bind ?_ (fun _ => ?_))
set_option maxHeartbeats 8000000 in
set_option maxRecDepth 100000 in
theorem api_Msg_90.calls (k : Nat) (P0_ : Nat → Prop) (u9000_ : Value) (l0 : List (S46))  (r : List (S46)) (w0 w : World) (hB : Below w0.heap.size w0 w) (ho0 : Kd.R k46 46 w w0.heap.size P0_ u9000_ l0) (h : api_Msg_90.f k l0 = some r) :
  Calls Try.prog 90 #[u9000_, .func (.func 91) #[] #[]] w fun e w' => e = .returned (.tuple #[]) ∧ Kd.R k46 46 w' w0.heap.size (fun k_ => (P0_ k_ ∨ w.heap.size ≤ k_)) u9000_ r ∧ Below w0.heap.size w0 w' ∧ Kept w w' (fun k_ => P0_ k_) := by
 (have HO0 := Aside0.mk (show Kd.R k46 46 w w0.heap.size (fun k_ => (P0_ k_ ∨ w.heap.size ≤ k_)) u9000_ l0 from Kd.R_mono ho0 (fun k_ hk => (.inl hk)))); (have HK := Aside0.mk (Kept.refl w (fun k_ => P0_ k_))); (have HW0 := Aside0.mk hB.size); (have HB := Aside0.mk hB); (clear hB); (have H : ((api_Msg_130.f k l0 (l0.length : Int)).bind fun t183 => (some t183)) = some r := h); (clear h); (replace H := Option.bind_eq_some_iff.mp H); (obtain ⟨t183, A30, H⟩ := H); (replace H : (some t183) = some r := H); (have A3 := Aside0.mk A30); (clear A30); (obtain rfl := Option.some.inj H); (obtain ⟨Ao4, co4, eo4⟩ := Kd.R_slice HO0.out); (subst eo4); (go_enter Try.func90, Try.ntmps90)
 go_wp2_with (first | ((with_reducible refine gate_callee (f := 130) rfl ?_); refine goesL_ (some 8) rfl rfl Try.func130 (by kernel_rfl) rfl #[.slice Ao4 l0.length co4, .int .i64 (l0.length : Int), .func (.func 91) #[] #[]] rfl (by (try simp only [List.map_toArray, List.map_cons, List.map_nil]); first | done | rfl) ?_; (with_reducible refine (api_Msg_130.calls k (fun k_ => some k_ = (.slice Ao4 l0.length co4 : Value).ownBlock) (.slice Ao4 l0.length co4) l0 (l0.length : Int)  t183 w0 _ ?side1 ?side2 A3.out).mono ?_); (case side1 => repeat (first | (with_reducible first | exact HB.out | apply y1_ | apply y2_ | apply y3_) | exact HB.out)); (case side2 => exact Kd.R_tight rfl HO0.out); rintro e w5 ⟨rfl, hy0, hb, hkp⟩; refine ⟨_, rfl, ?_⟩; replace HK := Aside0.mk (Kept.then_ (S := (fun k_ => P0_ k_)) (q23_0) hkp (fun k_ hs_ => (fun e_ => (HO0.out.1 k_ e_.symm)) hs_)); replace HO0 := Aside0.mk (Kd.R_reok rfl hy0 (fun k_ e_ => HO0.out.1 k_ e_)); replace HB := Aside0.mk (hb); (try clear hb); (try clear hkp); (try clear hy0)))
 (first | go_end0 | ((try simp only [Exit.inBlock, Exit.then]); refine bodyPost_ret (results_none rfl _ _ _) rfl ?_)); (exact ⟨by first | rfl | (simp [*, errW_none, errW_some] <;> rfl), by (with_reducible repeat (first | apply Kd.R_alloc | apply Kd.R_drewN | apply Kd.R_drew)); exact HO0.out, by (with_reducible repeat first | exact HB.out | apply y1_ | apply y2_ | apply y3_) <;> exact HB.out, q23_0⟩)
theorem q43_0 {P : Prop} (h : P := by (with_reducible repeat first | exact HB.out | apply y1_ | apply y2_ | apply y3_) <;> exact HB.out) : P := h
/-! ### buffer_Newest: function 58 -/
def buffer_Newest.f (k : Nat) (l0 : List (S46)) : Option (Int) := if (l0.length : Int) = 0 then (some 0) else ((api_Msg_114.f k l0).bind fun bt295 => (some bt295.2.1))
theorem buffer_Newest.mono : ∀ a0 k, LeO (buffer_Newest.f k a0) (buffer_Newest.f (k + 1) a0) := by
 (intro a0 k); (unfold buffer_Newest.f)
 repeat' (with_reducible first | exact api_Msg_114.mono _ _ | exact LeO.refl _ | exact LeO.none _ | refine LeO.ite ?_ ?_ | refine LeO.bind ?_ (fun _ => ?_))
theorem buffer_Newest.field (x0 x1 x2 x3 x4 x5 : Value) (w : World) : Sem.run Try.prog (Instr.field 46 (.agg #[x0, x1, x2, x3, x4, x5]) 1) w = .ok x1 w := by kernel_rfl
attribute [local go_sem] buffer_Newest.field
set_option maxHeartbeats 8000000 in
set_option maxRecDepth 100000 in
theorem buffer_Newest.calls (k : Nat) (A0 : Option Addr) (c0 : Nat) (l0 : List (S46)) (r : Int) (w : World) (hr0 : Kd.C k46 w A0 l0.length l0) (hc0 : l0.length ≤ c0) (h : buffer_Newest.f k l0 = some r) :
  Calls Try.prog 58 #[.slice A0 l0.length c0] w fun e w' => e = .returned (.int .i64 r) ∧ Below w.heap.size w w' := by
 (have HR0 := Aside0.mk hr0); (have HC0 := Aside0.mk hc0); (clear hr0 hc0); (have HB := Aside0.mk (Below.refl w.heap.size w)); (have H : (if (l0.length : Int) = 0 then (some 0) else ((api_Msg_114.f k l0).bind fun bt295 => (some bt295.2.1))) = some r := h); (clear h); (by_cases c2 : (l0.length : Int) = 0)
 ·rw [if_pos c2] at H
  (have c2b0 : ((l0.length : Int) == 0) = true := beq_iff_eq.mpr c2); (have c2b1 : ((l0.length : Int) != 0) = false := bne_eq_false_iff_eq.mpr c2); (clear c2); (obtain rfl := Option.some.inj H); (go_enter Try.func58, Try.ntmps58); (go_wp2); (go_ret); (exact ⟨by first | rfl | (simp [*, errW_none, errW_some] <;> rfl), q43_0⟩)
 ·rw [if_neg c2] at H
  (have c2b0 : ((l0.length : Int) == 0) = false := beq_eq_false_iff_ne.mpr c2); (have c2b1 : ((l0.length : Int) != 0) = true := bne_iff_ne.mpr c2); (have c2b2 : ¬ (l0 = []) := fun h_ => c2 (by rw [h_]; rfl)); (replace H := Option.bind_eq_some_iff.mp H); (obtain ⟨⟨t295, t296, t297, t298, t299, t300⟩, A30, H⟩ := H); (replace H : (some t296) = some r := H); (have A3 := Aside0.mk A30); (clear A30); (obtain rfl := Option.some.inj H); (go_enter Try.func58, Try.ntmps58)
  (go_wp2_with (first | ((with_reducible refine gate_callee (f := 114) rfl ?_); refine goesL_ (some 7) rfl rfl Try.func114 (by kernel_rfl) rfl #[.slice A0 l0.length c0, .func (.func 91) #[] #[]] rfl (by (try simp only [List.map_toArray, List.map_cons, List.map_nil]); first | done | rfl) ?_; (with_reducible refine (api_Msg_114.calls k _ _ l0  t295 t296 t297 t298 t299 t300 _ ?side1 ?side2 A3.out).mono ?_); (case side1 => repeat (first | exact HR0.out | (with_reducible refine Kd.C_alloc ?_ _) | (with_reducible refine Kd.C_drewN ?_ _) | (with_reducible refine Kd.C_drew ?_))); (case side2 => exact HC0.out); rintro e w4 ⟨rfl, hb⟩; refine ⟨_, rfl, ?_⟩; replace HB := Aside0.mk (below_step (q43_0) hb); (try clear hb); (try clear hb2); (try clear hk); (try clear hi)))); (go_ret); (exact ⟨by first | rfl | (simp [*, errW_none, errW_some] <;> rfl), q43_0⟩)
end Go.Proofs.Ytnklnjghecmihaa.L2

