/- tight -/ -- written by wip/myprint.py
import Derived.Test.YtnklnjghecmihaaL2x0
import Derived.Test.YtnklnjghecmihaaL2x18
import Derived.Test.YtnklnjghecmihaaL2x21
namespace Go.Proofs.Ytnklnjghecmihaa.L2
open Go.RowKit Go.Proofs.YtnklnjghecmihaaW PrintWords PrintLast PrintMore Mine
attribute [local go_sem] max2_int min2_int max_two min_two max_three min_three max_four min_four max2_str min2_str binOp_gtr_str binOp_leq_str binOp_geq_str
set_option linter.unusedVariables false
set_option linter.unusedSimpArgs false
theorem q22_0 {P : Prop} (h : P := by repeat (first | (with_reducible first | exact HK.out | apply Kept.alloc | apply Kept.drewN | apply Kept.drew) | exact HK.out)) : P := h
theorem q22_1 {P : Prop} (h : P := by (with_reducible repeat first | exact HB.out | apply y1_ | apply y2_ | apply y3_) <;> exact HB.out) : P := h
theorem q22_2 {P : Prop} (h : P := by repeat (first | (with_reducible first | exact HB.out | apply y1_ | apply y2_ | apply y3_) | exact HB.out)) : P := h
theorem q22_3 {P : Prop} (h : P := by (with_reducible repeat (first | apply Kd.R_alloc | apply Kd.R_drewN | apply Kd.R_drew)); exact HO_0.out) : P := h
theorem q22_4 {P : Prop} (h : P := by have := HK1.out; have := HK2.out; have := HK3.out; omega) : P := h
theorem q22_5 {P : Prop} (h : P := by (try simp only [hl0_2]); (try simp only [hl0_3]); (with_reducible repeat (first | apply Kd.R_alloc | apply Kd.R_drewN | apply Kd.R_drew)); exact HO_0.out) : P := h

/-! ### api_Msg_130: function 130 -/
mutual
def api_Msg_130.l0 : Nat → List (S46) → Int → Int → Int → Int → Option ((List (S46)))
 | 0, _, _, _, _, _ => none
 | k + 1, x0, x1, x6, x7, x8 => if x8 ≤ x1 then ((api_Msg_155.f k x0 x7 x8).bind fun t179 => (api_Msg_130.l0 k t179 x1 x6 x8 (wrap64 (x8 + x6)))) else ((api_Msg_155.f k x0 x7 x1).bind fun t180 => (api_Msg_130.l1 k t180 x1 x6))
def api_Msg_130.l1 : Nat → List (S46) → Int → Int → Option ((List (S46)))
 | 0, _, _, _ => none
 | k + 1, x0, x1, x6 => if x6 < x1 then (api_Msg_130.l2 k x0 x1 x6 0 (wrap64 (2 * x6))) else (some x0)
def api_Msg_130.l2 : Nat → List (S46) → Int → Int → Int → Int → Option ((List (S46)))
 | 0, _, _, _, _, _ => none
 | k + 1, x0, x1, x6, x7, x8 => if x8 ≤ x1 then ((api_Msg_156.f k x0 x7 (wrap64 (x7 + x6)) x8).bind fun t181 => (api_Msg_130.l2 k t181 x1 x6 x8 (wrap64 (x8 + (wrap64 (2 * x6)))))) else (if (wrap64 (x7 + x6)) < x1 then ((api_Msg_156.f k x0 x7 (wrap64 (x7 + x6)) x1).bind fun t182 => (api_Msg_130.l1 k t182 x1 (wrap64 (x6 * 2)))) else (api_Msg_130.l1 k x0 x1 (wrap64 (x6 * 2))))
end
def api_Msg_130.f (k : Nat) (l0 : List (S46)) (a1 : Int)  : Option ((List (S46))) := api_Msg_130.l0 k l0 a1 20 0 20
theorem api_Msg_130.mono_l : ∀ k, (∀ y0 y1 y2 y3 y4, LeO (api_Msg_130.l0 k y0 y1 y2 y3 y4) (api_Msg_130.l0 (k + 1) y0 y1 y2 y3 y4)) ∧ (∀ y0 y1 y2, LeO (api_Msg_130.l1 k y0 y1 y2) (api_Msg_130.l1 (k + 1) y0 y1 y2)) ∧ (∀ y0 y1 y2 y3 y4, LeO (api_Msg_130.l2 k y0 y1 y2 y3 y4) (api_Msg_130.l2 (k + 1) y0 y1 y2 y3 y4))
 | 0 => ⟨fun _ _ _ _ _ r h => by simp [api_Msg_130.l0] at h, fun _ _ _ r h => by simp [api_Msg_130.l1] at h, fun _ _ _ _ _ r h => by simp [api_Msg_130.l2] at h⟩
 | k + 1 => by
  obtain ⟨ih0, ih1, ih2⟩ := api_Msg_130.mono_l k
  refine ⟨?_, ?_, ?_⟩
  ·intro y0 y1 y2 y3 y4
   unfold api_Msg_130.l0
   repeat' (with_reducible first | exact ih0 _ _ _ _ _ | exact ih1 _ _ _ | exact ih2 _ _ _ _ _ | exact api_Msg_155.mono _ _ _ _ | exact api_Msg_156.mono _ _ _ _ _ | exact LeO.refl _ | exact LeO.none _ | refine LeO.ite ?_ ?_ | refine LeO.bind ?_ (fun _ => ?_))
  ·intro y0 y1 y2
   unfold api_Msg_130.l1
   repeat' (with_reducible first | exact ih0 _ _ _ _ _ | exact ih1 _ _ _ | exact ih2 _ _ _ _ _ | exact api_Msg_155.mono _ _ _ _ | exact api_Msg_156.mono _ _ _ _ _ | exact LeO.refl _ | exact LeO.none _ | refine LeO.ite ?_ ?_ | refine LeO.bind ?_ (fun _ => ?_))
  ·intro y0 y1 y2 y3 y4
   unfold api_Msg_130.l2
   repeat' (with_reducible first | exact ih0 _ _ _ _ _ | exact ih1 _ _ _ | exact ih2 _ _ _ _ _ | exact api_Msg_155.mono _ _ _ _ | exact api_Msg_156.mono _ _ _ _ _ | exact LeO.refl _ | exact LeO.none _ | refine LeO.ite ?_ ?_ | refine LeO.bind ?_ (fun _ => ?_))
theorem api_Msg_130.mono : ∀ a0 a1 k, LeO (api_Msg_130.f k a0 a1) (api_Msg_130.f (k + 1) a0 a1) := by
 (intro a0 a1 k); (obtain ⟨ih0, ih1, ih2⟩ := api_Msg_130.mono_l k); (unfold api_Msg_130.f)
 repeat' (with_reducible first | exact ih0 _ _ _ _ _ | exact ih1 _ _ _ | exact ih2 _ _ _ _ _ | exact api_Msg_155.mono _ _ _ _ | exact api_Msg_156.mono _ _ _ _ _ | exact LeO.refl _ | exact LeO.none _ | refine LeO.ite ?_ ?_ | refine LeO.bind ?_ (fun _ => ?_))
set_option maxHeartbeats 8000000 in
set_option maxRecDepth 100000 in
theorem api_Msg_130.calls (k : Nat) (P0_ : Nat → Prop) (u9000_ : Value) (l0 : List (S46)) (a1 : Int)  (r : List (S46)) (w0 w : World) (hB : Below w0.heap.size w0 w) (ho0 : Kd.R k46 46 w w0.heap.size P0_ u9000_ l0) (h : api_Msg_130.f k l0 a1 = some r) :
  Calls Try.prog 130 #[u9000_, .int .i64 a1, .func (.func 91) #[] #[]] w fun e w' => e = .returned (.tuple #[]) ∧ Kd.R k46 46 w' w0.heap.size (fun k_ => (P0_ k_ ∨ w.heap.size ≤ k_)) u9000_ r ∧ Below w0.heap.size w0 w' ∧ Kept w w' (fun k_ => P0_ k_) := by
 (have HO0 := Aside0.mk (show Kd.R k46 46 w w0.heap.size (fun k_ => (P0_ k_ ∨ w.heap.size ≤ k_)) u9000_ l0 from Kd.R_mono ho0 (fun k_ hk => (.inl hk)))); (have HK := Aside0.mk (Kept.refl w (fun k_ => P0_ k_))); (have HW0 := Aside0.mk hB.size); (have HB := Aside0.mk hB); (clear hB); (have H : (api_Msg_130.l0 k l0 a1 20 0 20) = some r := h); (clear h); (have H' := Aside0.mk H); (clear H); (go_enter Try.func130, Try.ntmps130); (go_wp2); (go_loopg [7, 8] k (fun kq v7 v8 w' => ∃ (x0_1 : List (S46)) (x7_1 : Int) (x8_1 : Int), v7 = .int .i64 x7_1 ∧ v8 = .int .i64 x8_1 ∧ Aside0 (api_Msg_130.l0 kq x0_1 a1 20 x7_1 x8_1 = some r) ∧ Aside0 (kq ≤ k) ∧ Aside0 (Kd.R k46 46 w' w0.heap.size (fun k_ => (P0_ k_ ∨ w.heap.size ≤ k_)) u9000_ x0_1) ∧ Aside0 (Kept w w' (fun k_ => P0_ k_)) ∧ Aside0 (Below w0.heap.size w0 w')))
 case atStart => exact ⟨(l0), (0), (20), (by first | rfl | (simp; done) | (simp [*]; done)), (by first | rfl | (simp; done) | (simp [*]; done)), H', ⟨Nat.le_refl _⟩, ⟨by (with_reducible repeat (first | apply Kd.R_alloc | apply Kd.R_drewN | apply Kd.R_drew)); exact HO0.out⟩, ⟨q22_0⟩, ⟨q22_1⟩⟩
 case round =>
  (clear H'); (try clear c1); (try clear p2); (obtain ⟨x0_1, x7_1, x8_1, rfl, rfl, HA, HK1, HO_0, HK, HB⟩ := hrel)
  cases gk with
  | zero => exact absurd HA.out (by simp [api_Msg_130.l0])
  | succ k1 =>
   (have H := HA.out); (clear HA); (simp only [api_Msg_130.l0] at H); (by_cases c4 : x8_1 ≤ a1)
   ·rw [if_pos c4] at H
    (have c4b0 : decide (x8_1 ≤ a1) = true := decide_eq_true c4); (clear c4); (replace H := Option.bind_eq_some_iff.mp H); (obtain ⟨t179, A50, H⟩ := H); (replace H : (api_Msg_130.l0 k1 t179 a1 20 x8_1 (wrap64 (x8_1 + 20))) = some r := H); (have A5 := Aside0.mk A50); (clear A50); (have H' := Aside0.mk H); (clear H); (obtain ⟨Ao6, co6, eo6⟩ := Kd.R_slice HO_0.out); (subst eo6)
    go_wp2_with (first | ((with_reducible refine gate_callee (f := 155) rfl ?_); refine goesL_ (some 18) rfl rfl Try.func155 (by kernel_rfl) rfl #[.slice Ao6 x0_1.length co6, .int .i64 x7_1, .int .i64 x8_1, .func (.func 91) #[] #[]] rfl (by (try simp only [List.map_toArray, List.map_cons, List.map_nil]); first | done | rfl) ?_; (with_reducible refine (api_Msg_155.calls k1 (fun k_ => some k_ = (.slice Ao6 x0_1.length co6 : Value).ownBlock) (.slice Ao6 x0_1.length co6) x0_1 x7_1 x8_1  t179 w0 _ ?side1 ?side2 A5.out).mono ?_); (case side1 => exact q22_2); (case side2 => exact Kd.R_tight rfl HO_0.out); rintro e w7 ⟨rfl, hy0, hb, hkp⟩; refine ⟨_, rfl, ?_⟩; replace HK := Aside0.mk (Kept.then_ (S := (fun k_ => P0_ k_)) (q22_0) hkp (fun k_ hs_ => (fun e_ => (HO_0.out.1 k_ e_.symm)) hs_)); replace HO_0 := Aside0.mk (Kd.R_reok rfl hy0 (fun k_ e_ => HO_0.out.1 k_ e_)); replace HB := Aside0.mk (hb); (try clear hb); (try clear hkp); (try clear hy0)))
    go_roundg k1
    case measure => have := HK1.out; omega
    case rel => exact ⟨(t179), (x8_1), (wrap64 (x8_1 + 20)), (by first | rfl | (simp; done) | (simp [*]; done)), (by first | rfl | (simp; done) | (simp [*]; done)), H', ⟨by have := HK1.out; omega⟩, ⟨q22_3⟩, ⟨q22_0⟩, ⟨q22_1⟩⟩
   ·rw [if_neg c4] at H
    (have c4b0 : decide (x8_1 ≤ a1) = false := decide_eq_false c4); (clear c4); (replace H := Option.bind_eq_some_iff.mp H); (obtain ⟨t180, A80, H⟩ := H); (replace H : (api_Msg_130.l1 k1 t180 a1 20) = some r := H); (have A8 := Aside0.mk A80); (clear A80); (have H' := Aside0.mk H); (clear H); (obtain ⟨Ao9, co9, eo9⟩ := Kd.R_slice HO_0.out); (subst eo9)
    go_wp2_with (first | ((with_reducible refine gate_callee (f := 155) rfl ?_); refine goesL_ (some 27) rfl rfl Try.func155 (by kernel_rfl) rfl #[.slice Ao9 x0_1.length co9, .int .i64 x7_1, .int .i64 a1, .func (.func 91) #[] #[]] rfl (by (try simp only [List.map_toArray, List.map_cons, List.map_nil]); first | done | rfl) ?_; (with_reducible refine (api_Msg_155.calls k1 (fun k_ => some k_ = (.slice Ao9 x0_1.length co9 : Value).ownBlock) (.slice Ao9 x0_1.length co9) x0_1 x7_1 a1  t180 w0 _ ?side1 ?side2 A8.out).mono ?_); (case side1 => exact q22_2); (case side2 => exact Kd.R_tight rfl HO_0.out); rintro e w10 ⟨rfl, hy0, hb, hkp⟩; refine ⟨_, rfl, ?_⟩; replace HK := Aside0.mk (Kept.then_ (S := (fun k_ => P0_ k_)) (q22_0) hkp (fun k_ hs_ => (fun e_ => (HO_0.out.1 k_ e_.symm)) hs_)); replace HO_0 := Aside0.mk (Kd.R_reok rfl hy0 (fun k_ e_ => HO_0.out.1 k_ e_)); replace HB := Aside0.mk (hb); (try clear hb); (try clear hkp); (try clear hy0)))
    (try simp only [Act.put, List.setIfInBounds_toArray, List.set_cons_zero, List.set_cons_succ])
    go_loopg [6] k1 (fun kq v6 w' => ∃ (x0_2 : List (S46)) (x6_2 : Int), v6 = .int .i64 x6_2 ∧ Aside0 (api_Msg_130.l1 kq x0_2 a1 x6_2 = some r) ∧ Aside0 (kq ≤ k1) ∧ Aside0 (Kd.R k46 46 w' w0.heap.size (fun k_ => (P0_ k_ ∨ w.heap.size ≤ k_)) (.slice Ao9 x0_1.length co9) x0_2) ∧ Aside0 (Kept w w' (fun k_ => P0_ k_)) ∧ Aside0 (Below w0.heap.size w0 w'))
    case atStart => exact ⟨(t180), (20), (by first | rfl | (simp; done) | (simp [*]; done)), H', ⟨Nat.le_refl _⟩, ⟨q22_3⟩, ⟨q22_0⟩, ⟨q22_1⟩⟩
    case round =>
     (clear H'); (try clear c1); (try clear p2); (try clear c4); (try clear c4b0); (try clear p6); (try clear p2); (obtain ⟨x0_2, x6_2, rfl, HA, HK2, HO_0, HK, HB⟩ := hrel); (have hl0_2 := (Kd.R_reads' HO_0.out).1); (rw [hl0_2] at HO_0); ((try simp only [hl0_2]))
     cases gk with
     | zero => exact absurd HA.out (by simp [api_Msg_130.l1])
     | succ k2 =>
      (have H := HA.out); (clear HA); (simp only [api_Msg_130.l1] at H); (by_cases c11 : x6_2 < a1)
      ·rw [if_pos c11] at H
       (have c11b0 : decide (x6_2 < a1) = true := decide_eq_true c11); (clear c11); (have H' := Aside0.mk H); (clear H); (go_wp2); (go_loopg [7, 8] k2 (fun kq v7 v8 w' => ∃ (x0_3 : List (S46)) (x7_3 : Int) (x8_3 : Int), v7 = .int .i64 x7_3 ∧ v8 = .int .i64 x8_3 ∧ Aside0 (api_Msg_130.l2 kq x0_3 a1 x6_2 x7_3 x8_3 = some r) ∧ Aside0 (kq ≤ k2) ∧ Aside0 (Kd.R k46 46 w' w0.heap.size (fun k_ => (P0_ k_ ∨ w.heap.size ≤ k_)) (.slice Ao9 x0_2.length co9) x0_3) ∧ Aside0 (Kept w w' (fun k_ => P0_ k_)) ∧ Aside0 (Below w0.heap.size w0 w')))
       case atStart => exact ⟨(x0_2), (0), (wrap64 (2 * x6_2)), (by first | rfl | (simp; done) | (simp [*]; done)), (by first | rfl | (simp; done) | (simp [*]; done)), H', ⟨Nat.le_refl _⟩, ⟨by (try simp only [hl0_2]); (with_reducible repeat (first | apply Kd.R_alloc | apply Kd.R_drewN | apply Kd.R_drew)); exact HO_0.out⟩, ⟨q22_0⟩, ⟨q22_1⟩⟩
       case round =>
        (clear H'); (try clear c1); (try clear p2); (try clear c4); (try clear c4b0); (try clear p6); (try clear c11); (try clear c11b0); (try clear p2); (try clear p6); (obtain ⟨x0_3, x7_3, x8_3, rfl, rfl, HA, HK3, HO_0, HK, HB⟩ := hrel); (have hl0_3 := (Kd.R_reads' HO_0.out).1); (rw [hl0_3] at HO_0); ((try simp only [hl0_3]))
        cases gk with
        | zero => exact absurd HA.out (by simp [api_Msg_130.l2])
        | succ k3 =>
         (have H := HA.out); (clear HA); (simp only [api_Msg_130.l2] at H); (by_cases c12 : x8_3 ≤ a1)
         ·rw [if_pos c12] at H
          (have c12b0 : decide (x8_3 ≤ a1) = true := decide_eq_true c12); (clear c12); (replace H := Option.bind_eq_some_iff.mp H); (obtain ⟨t181, A130, H⟩ := H); (replace H : (api_Msg_130.l2 k3 t181 a1 x6_2 x8_3 (wrap64 (x8_3 + (wrap64 (2 * x6_2))))) = some r := H); (have A13 := Aside0.mk A130); (clear A130); (have H' := Aside0.mk H); (clear H)
          go_wp2_with (first | ((with_reducible refine gate_callee (f := 156) rfl ?_); refine goesL_ (some 43) rfl rfl Try.func156 (by kernel_rfl) rfl #[.slice Ao9 x0_3.length co9, .int .i64 x7_3, .int .i64 (wrap64 (x7_3 + x6_2)), .int .i64 x8_3, .func (.func 91) #[] #[]] rfl (by (try simp only [List.map_toArray, List.map_cons, List.map_nil]); first | done | rfl) ?_; (with_reducible refine (api_Msg_156.calls k3 (fun k_ => some k_ = (.slice Ao9 x0_3.length co9 : Value).ownBlock) (.slice Ao9 x0_3.length co9) x0_3 x7_3 (wrap64 (x7_3 + x6_2)) x8_3  t181 w0 _ ?side1 ?side2 A13.out).mono ?_); (case side1 => exact q22_2); (case side2 => exact Kd.R_tight rfl HO_0.out); rintro e w14 ⟨rfl, hy0, hb, hkp⟩; refine ⟨_, rfl, ?_⟩; replace HK := Aside0.mk (Kept.then_ (S := (fun k_ => P0_ k_)) (q22_0) hkp (fun k_ hs_ => (fun e_ => (HO_0.out.1 k_ e_.symm)) hs_)); replace HO_0 := Aside0.mk (Kd.R_reok rfl hy0 (fun k_ e_ => HO_0.out.1 k_ e_)); replace HB := Aside0.mk (hb); (try clear hb); (try clear hkp); (try clear hy0)))
          ((try simp only [← hl0_3])); (go_roundg k3)
          case measure => have := HK1.out; have := HK2.out; have := HK3.out; omega
          case rel => exact ⟨(t181), (x8_3), (wrap64 (x8_3 + (wrap64 (2 * x6_2)))), (by first | rfl | (simp; done) | (simp [*]; done)), (by first | rfl | (simp; done) | (simp [*]; done)), H', ⟨q22_4⟩, ⟨q22_5⟩, ⟨q22_0⟩, ⟨q22_1⟩⟩
         ·rw [if_neg c12] at H
          (have c12b0 : decide (x8_3 ≤ a1) = false := decide_eq_false c12); (clear c12); (by_cases c15 : (wrap64 (x7_3 + x6_2)) < a1)
          ·rw [if_pos c15] at H
           (have c15b0 : decide ((wrap64 (x7_3 + x6_2)) < a1) = true := decide_eq_true c15); (clear c15); (replace H := Option.bind_eq_some_iff.mp H); (obtain ⟨t182, A160, H⟩ := H); (replace H : (api_Msg_130.l1 k3 t182 a1 (wrap64 (x6_2 * 2))) = some r := H); (have A16 := Aside0.mk A160); (clear A160); (have H' := Aside0.mk H); (clear H)
           go_wp2_with (first | ((with_reducible refine gate_callee (f := 156) rfl ?_); refine goesL_ (some 60) rfl rfl Try.func156 (by kernel_rfl) rfl #[.slice Ao9 x0_3.length co9, .int .i64 x7_3, .int .i64 (wrap64 (x7_3 + x6_2)), .int .i64 a1, .func (.func 91) #[] #[]] rfl (by (try simp only [List.map_toArray, List.map_cons, List.map_nil]); first | done | rfl) ?_; (with_reducible refine (api_Msg_156.calls k3 (fun k_ => some k_ = (.slice Ao9 x0_3.length co9 : Value).ownBlock) (.slice Ao9 x0_3.length co9) x0_3 x7_3 (wrap64 (x7_3 + x6_2)) a1  t182 w0 _ ?side1 ?side2 A16.out).mono ?_); (case side1 => exact q22_2); (case side2 => exact Kd.R_tight rfl HO_0.out); rintro e w17 ⟨rfl, hy0, hb, hkp⟩; refine ⟨_, rfl, ?_⟩; replace HK := Aside0.mk (Kept.then_ (S := (fun k_ => P0_ k_)) (q22_0) hkp (fun k_ hs_ => (fun e_ => (HO_0.out.1 k_ e_.symm)) hs_)); replace HO_0 := Aside0.mk (Kd.R_reok rfl hy0 (fun k_ e_ => HO_0.out.1 k_ e_)); replace HB := Aside0.mk (hb); (try clear hb); (try clear hkp); (try clear hy0)))
           ((try simp only [← hl0_2, ← hl0_3])); (go_roundg k3)
           case measure => have := HK1.out; have := HK2.out; have := HK3.out; omega
           case rel => exact ⟨(t182), (wrap64 (x6_2 * 2)), (by first | rfl | (simp; done) | (simp [*]; done)), H', ⟨q22_4⟩, ⟨q22_5⟩, ⟨q22_0⟩, ⟨q22_1⟩⟩
          ·rw [if_neg c15] at H
           (have c15b0 : decide ((wrap64 (x7_3 + x6_2)) < a1) = false := decide_eq_false c15); (clear c15); (have H' := Aside0.mk H); (clear H); (go_wp2); ((try simp only [← hl0_2, ← hl0_3])); (go_roundg k3)
           case measure => have := HK1.out; have := HK2.out; have := HK3.out; omega
           case rel => exact ⟨(x0_3), (wrap64 (x6_2 * 2)), (by first | rfl | (simp; done) | (simp [*]; done)), H', ⟨q22_4⟩, ⟨q22_5⟩, ⟨q22_0⟩, ⟨q22_1⟩⟩
      ·rw [if_neg c11] at H
       (have c11b0 : decide (x6_2 < a1) = false := decide_eq_false c11); (clear c11); (obtain rfl := Option.some.inj H); (go_wp2); (first | go_end0 | ((try simp only [Exit.inBlock, Exit.then]); refine bodyPost_ret (results_none rfl _ _ _) rfl ?_)); (exact ⟨by first | rfl | (simp [*, errW_none, errW_some] <;> rfl), (by first | exact (q22_3) | (simp only [hl0_2]; exact (q22_3))), q22_1, q22_0⟩)

end Go.Proofs.Ytnklnjghecmihaa.L2
