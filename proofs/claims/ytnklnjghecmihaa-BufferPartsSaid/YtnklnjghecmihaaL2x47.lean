/- tight -/ -- written by wip/myprint.py
import Derived.Test.YtnklnjghecmihaaL2x0
import Derived.Test.YtnklnjghecmihaaL2x46
namespace Go.Proofs.Ytnklnjghecmihaa.L2
open Go.RowKit Go.Proofs.YtnklnjghecmihaaW PrintWords PrintLast PrintMore Mine
attribute [local go_sem] max2_int min2_int max_two min_two max_three min_three max_four min_four max2_str min2_str binOp_gtr_str binOp_leq_str binOp_geq_str
set_option linter.unusedVariables false
set_option linter.unusedSimpArgs false
theorem q47_0 {P : Prop} (h : P := by (with_reducible repeat first | exact HB.out | apply y1_ | apply y2_ | apply y3_) <;> exact HB.out) : P := h
theorem q47_1 {P : Prop} (h : P := by repeat (first | exact (Kd.R_reads' HO_5.out).2.2 | (with_reducible refine Kd.C_alloc ?_ _) | (with_reducible refine Kd.C_drewN ?_ _) | (with_reducible refine Kd.C_drew ?_))) : P := h
theorem q47_2 {P : Prop} (h : P := by (with_reducible repeat (first | apply Kd.R_alloc | apply Kd.R_drewN | apply Kd.R_drew)); exact HO_5.out) : P := h

/-! ### catchmentref12_Add: function 29 -/
mutual
def catchmentref12_Add.l0 : Nat → List (S46) → List (S46) → List (S46) → Int → Option ((List (S46)))
 | 0, _, _, _, _ => none
 | k + 1, x0, x1, x5, x6 => if x6 < (x0.length : Int) then (if 0 ≤ x6 then ((catchmentref12_into.f k x5 ((rd_T46 x0 x6).f0) ((rd_T46 x0 x6).f1) ((rd_T46 x0 x6).f2) ((rd_T46 x0 x6).f3) ((rd_T46 x0 x6).f4) ((rd_T46 x0 x6).f5)).bind fun t370 => (catchmentref12_Add.l0 k x0 x1 t370 (wrap64 (x6 + 1)))) else (none)) else (catchmentref12_Add.l1 k x1 x5 0)
def catchmentref12_Add.l1 : Nat → List (S46) → List (S46) → Int → Option ((List (S46)))
 | 0, _, _, _ => none
 | k + 1, x1, x5, x7 => if x7 < (x1.length : Int) then (if 0 ≤ x7 then ((catchmentref12_into.f k x5 ((rd_T46 x1 x7).f0) ((rd_T46 x1 x7).f1) ((rd_T46 x1 x7).f2) ((rd_T46 x1 x7).f3) ((rd_T46 x1 x7).f4) ((rd_T46 x1 x7).f5)).bind fun t374 => (catchmentref12_Add.l1 k x1 t374 (wrap64 (x7 + 1)))) else (none)) else (some x5)
end
def catchmentref12_Add.f (k : Nat) (l0 : List (S46)) (l1 : List (S46)) : Option ((List (S46))) := catchmentref12_Add.l0 k l0 l1 (([] : List (S46))) 0
theorem catchmentref12_Add.mono_l : ∀ k, (∀ y0 y1 y2 y3, LeO (catchmentref12_Add.l0 k y0 y1 y2 y3) (catchmentref12_Add.l0 (k + 1) y0 y1 y2 y3)) ∧ (∀ y0 y1 y2, LeO (catchmentref12_Add.l1 k y0 y1 y2) (catchmentref12_Add.l1 (k + 1) y0 y1 y2))
 | 0 => ⟨fun _ _ _ _ r h => by simp [catchmentref12_Add.l0] at h, fun _ _ _ r h => by simp [catchmentref12_Add.l1] at h⟩
 | k + 1 => by
  obtain ⟨ih0, ih1⟩ := catchmentref12_Add.mono_l k
  refine ⟨?_, ?_⟩
  ·intro y0 y1 y2 y3
   unfold catchmentref12_Add.l0
   repeat' (with_reducible first | exact ih0 _ _ _ _ | exact ih1 _ _ _ | exact catchmentref12_into.mono _ _ _ _ _ _ _ _ | exact LeO.refl _ | exact LeO.none _ | refine LeO.ite ?_ ?_ | refine LeO.bind ?_ (fun _ => ?_))
  ·intro y0 y1 y2
   unfold catchmentref12_Add.l1
   repeat' (with_reducible first | exact ih0 _ _ _ _ | exact ih1 _ _ _ | exact catchmentref12_into.mono _ _ _ _ _ _ _ _ | exact LeO.refl _ | exact LeO.none _ | refine LeO.ite ?_ ?_ | refine LeO.bind ?_ (fun _ => ?_))
theorem catchmentref12_Add.mono : ∀ a0 a1 k, LeO (catchmentref12_Add.f k a0 a1) (catchmentref12_Add.f (k + 1) a0 a1) := by
 (intro a0 a1 k); (obtain ⟨ih0, ih1⟩ := catchmentref12_Add.mono_l k); (unfold catchmentref12_Add.f)
 repeat' (with_reducible first | exact ih0 _ _ _ _ | exact ih1 _ _ _ | exact catchmentref12_into.mono _ _ _ _ _ _ _ _ | exact LeO.refl _ | exact LeO.none _ | refine LeO.ite ?_ ?_ | refine LeO.bind ?_ (fun _ => ?_))
set_option maxHeartbeats 8000000 in
set_option maxRecDepth 100000 in
theorem catchmentref12_Add.calls (k : Nat) (A0 : Option Addr) (c0 : Nat) (l0 : List (S46)) (A1 : Option Addr) (c1 : Nat) (l1 : List (S46)) (r : List (S46)) (w : World) (hr0 : Kd.C k46 w A0 l0.length l0) (hc0 : l0.length ≤ c0) (hr1 : Kd.C k46 w A1 l1.length l1) (hc1 : l1.length ≤ c1) (h : catchmentref12_Add.f k l0 l1 = some r) :
  Calls Try.prog 29 #[.slice A0 l0.length c0, .slice A1 l1.length c1] w fun e w' => ∃ v0_ : Value, e = .returned (v0_) ∧ Kd.R k46 46 w' w.heap.size (fun _ => True) v0_ r ∧ Below w.heap.size w w' := by
 (have hu46 := Try.underlying46); (have HR0 := Aside0.mk hr0); (have HC0 := Aside0.mk hc0); (clear hr0 hc0); (have HR1 := Aside0.mk hr1); (have HC1 := Aside0.mk hc1); (clear hr1 hc1); (have HB := Aside0.mk (Below.refl w.heap.size w)); (have H : (catchmentref12_Add.l0 k l0 l1 (([] : List (S46))) 0) = some r := h); (clear h); (obtain ⟨y366, hy366⟩ : ∃ y_ : List (S46), y_ = (([] : List (S46))) := ⟨_, rfl⟩); (replace H : (catchmentref12_Add.l0 k l0 l1 y366 0) = some r := by first | (rw [hy366]; with_reducible exact H) | (have H2_ := (Option.bind_some _ _).symm.trans H; rw [hy366]; with_reducible exact H2_) | (have H2_ := (Option.bind_some _ _).symm.trans H; with_reducible exact H2_) | with_reducible exact H | (rw [hy366]; exact H) | exact H); (have Ny366 := Aside0.mk hy366); (clear hy366); (have H' := Aside0.mk H); (clear H); (go_enter Try.func29, Try.ntmps29)
 go_wp2_with (first | ((with_reducible refine gate_dst (N := 8) rfl ?_); refine Kd.R_lit k46 _ 46 ?hg (N := 8) ?hd (xs := ([] : List (S46))) (inner := []) (ok := fun _ => True) (okp := fun _ => True) ?hr ?hp (fun _ hk => hk) trivial (Below.refl _ _) (Nat.le_refl _) (by simp) ?_; (case hd => rfl); (case hg => rfl); (case hr => first | (go_simp; done) | (go_simp; rfl)); (case hp => exact (Reps.none _ _)); intro v367 w3 ho4 hb hg_ hnew_; clear hg_ hnew_; (first | rw [← Ny366.out] at ho4 | (simp only [Int.reduceToNat] at ho4; rw [← Ny366.out] at ho4)); have HO368 := Aside0.mk (Kd.R_lower ho4 (below_size (q47_0))); replace HB := Aside0.mk (below_step (q47_0) hb); clear hb ho4))
 (try simp only [Act.put, List.setIfInBounds_toArray, List.set_cons_zero, List.set_cons_succ])
 go_loopg [5, 6] k (fun kq v5 v6 w' => ∃ (x5_1 : List (S46)) (x6_1 : Int), v6 = .int .i64 x6_1 ∧ Aside0 (catchmentref12_Add.l0 kq l0 l1 x5_1 x6_1 = some r) ∧ Aside0 (kq ≤ k) ∧ Aside0 (Kd.R k46 46 w' w.heap.size (fun _ => True) v5 x5_1) ∧ Aside0 (Below w.heap.size w w'))
 case atStart => exact ⟨(y366), (0), (by first | rfl | (simp; done) | (simp [*]; done)), H', ⟨Nat.le_refl _⟩, ⟨by (with_reducible repeat (first | apply Kd.R_alloc | apply Kd.R_drewN | apply Kd.R_drew)); exact HO368.out⟩, ⟨q47_0⟩⟩
 case round =>
  (clear H'); (try clear c1); (try clear c2); (try clear p2); (obtain ⟨x5_1, x6_1, rfl, HA, HK1, HO_5, HB⟩ := hrel)
  cases gk with
  | zero => exact absurd HA.out (by simp [catchmentref12_Add.l0])
  | succ k1 =>
   (have H := HA.out); (clear HA); (simp only [catchmentref12_Add.l0] at H); (by_cases c5 : x6_1 < (l0.length : Int))
   ·rw [if_pos c5] at H
    (have c5b0 : decide (x6_1 < (l0.length : Int)) = true := decide_eq_true c5); (clear c5); (by_cases c6 : 0 ≤ x6_1)
    ·rw [if_pos c6] at H
     (have c6b0 : decide (0 ≤ x6_1) = true := decide_eq_true c6); (clear c6); (replace H := Option.bind_eq_some_iff.mp H); (obtain ⟨t370, A70, H⟩ := H); (replace H : (catchmentref12_Add.l0 k1 l0 l1 t370 (wrap64 (x6_1 + 1))) = some r := H); (have A7 := Aside0.mk A70); (clear A70); (have H' := Aside0.mk H); (clear H); (have p369 : 0 ≤ (x6_1 : Int) := of_decide_eq_true (by first | (with_reducible assumption) | assumption)); (have q369 : x6_1 < (l0.length : Int) := of_decide_eq_true (by first | (with_reducible assumption) | assumption)); (obtain ⟨ad369, e369, hx369_0, hx369_1, hx369_2, hx369_3, hx369_4, hx369_5⟩ := at_T46 HR0.out x6_1 p369 q369); (cases e369); (replace hx369_0 := c1_ HB hx369_0); (replace hx369_1 := c1_ HB hx369_1); (replace hx369_2 := c1_ HB hx369_2); (replace hx369_3 := c1_ HB hx369_3); (replace hx369_4 := c1_ HB hx369_4); (replace hx369_5 := c1_ HB hx369_5)
     (replace p369 := eq_true p369); (replace q369 := eq_true q369); (obtain ⟨Ao8, co8, eo8⟩ := Kd.R_slice HO_5.out); (subst eo8)
     go_wp2_with (first | ((with_reducible refine gate_callee (f := 92) rfl ?_); refine goesL_ (some 20) rfl rfl Try.func92 (by kernel_rfl) rfl #[.slice Ao8 x5_1.length co8, .agg #[.int .u8 ((rd_T46 l0 x6_1).f0), .int .i64 ((rd_T46 l0 x6_1).f1), .string ((rd_T46 l0 x6_1).f2), .string ((rd_T46 l0 x6_1).f3), .string ((rd_T46 l0 x6_1).f4), .int .u64 ((rd_T46 l0 x6_1).f5)]] rfl (by (try simp only [List.map_toArray, List.map_cons, List.map_nil]); first | done | rfl) ?_; (with_reducible refine (catchmentref12_into.calls k1 _ _ x5_1 ((rd_T46 l0 x6_1).f0) ((rd_T46 l0 x6_1).f1) ((rd_T46 l0 x6_1).f2) ((rd_T46 l0 x6_1).f3) ((rd_T46 l0 x6_1).f4) ((rd_T46 l0 x6_1).f5) t370 _ ?side1 ?side2 A7.out).mono ?_); (case side1 => exact q47_1); (case side2 => exact (Kd.R_reads' HO_5.out).2.1); rintro e w9 ⟨v371, rfl, ho0, hb⟩; refine ⟨_, rfl, ?_⟩; have HO372 := Aside0.mk (Kd.R_lower (Kd.R_new' ho0 (Kd.R_lt (q47_2))) (below_size (q47_0))); replace HO_5 := Aside0.mk (Kd.R_elder' (q47_2) (Kd.R_base ho0) hb); replace HB := Aside0.mk (below_step (q47_0) hb); (try clear hb); (try clear hb2); (try clear hk); (try clear hi); (try clear ho0)))
     go_roundg k1
     case measure => have := HK1.out; omega
     case rel => exact ⟨(t370), (wrap64 (x6_1 + 1)), (by first | rfl | (simp; done) | (simp [*]; done)), H', ⟨by have := HK1.out; omega⟩, ⟨by (with_reducible repeat (first | apply Kd.R_alloc | apply Kd.R_drewN | apply Kd.R_drew)); exact Kd.R_mono HO372.out (fun _ hk => trivial)⟩, ⟨q47_0⟩⟩
    ·rw [if_neg c6] at H
     exact absurd H (by simp)
   ·rw [if_neg c5] at H
    (have c5b0 : decide (x6_1 < (l0.length : Int)) = false := decide_eq_false c5); (clear c5); (have H' := Aside0.mk H); (clear H); (go_wp2); (go_loopg [5, 7] k1 (fun kq v5 v7 w' => ∃ (x5_2 : List (S46)) (x7_2 : Int), v7 = .int .i64 x7_2 ∧ Aside0 (catchmentref12_Add.l1 kq l1 x5_2 x7_2 = some r) ∧ Aside0 (kq ≤ k1) ∧ Aside0 (Kd.R k46 46 w' w.heap.size (fun _ => True) v5 x5_2) ∧ Aside0 (Below w.heap.size w w')))
    case atStart => exact ⟨(x5_1), (0), (by first | rfl | (simp; done) | (simp [*]; done)), H', ⟨Nat.le_refl _⟩, ⟨q47_2⟩, ⟨q47_0⟩⟩
    case round =>
     (clear H'); (try clear c1); (try clear c2); (try clear p2); (try clear p3); (try clear q3); (try clear hx3); (try clear c5); (try clear c5b0); (try clear c6); (try clear c6b0); (try clear p6); (try clear c9); (try clear hx369_0); (try clear hx369_1); (try clear hx369_2); (try clear hx369_3); (try clear hx369_4); (try clear hx369_5); (try clear p2); (try clear p369); (try clear q369); (obtain ⟨x5_2, x7_2, rfl, HA, HK2, HO_5, HB⟩ := hrel)
     cases gk with
     | zero => exact absurd HA.out (by simp [catchmentref12_Add.l1])
     | succ k2 =>
      (have H := HA.out); (clear HA); (simp only [catchmentref12_Add.l1] at H); (by_cases c10 : x7_2 < (l1.length : Int))
      ·rw [if_pos c10] at H
       (have c10b0 : decide (x7_2 < (l1.length : Int)) = true := decide_eq_true c10); (clear c10); (by_cases c11 : 0 ≤ x7_2)
       ·rw [if_pos c11] at H
        (have c11b0 : decide (0 ≤ x7_2) = true := decide_eq_true c11); (clear c11); (replace H := Option.bind_eq_some_iff.mp H); (obtain ⟨t374, A120, H⟩ := H); (replace H : (catchmentref12_Add.l1 k2 l1 t374 (wrap64 (x7_2 + 1))) = some r := H); (have A12 := Aside0.mk A120); (clear A120); (have H' := Aside0.mk H); (clear H); (have p373 : 0 ≤ (x7_2 : Int) := of_decide_eq_true (by first | (with_reducible assumption) | assumption)); (have q373 : x7_2 < (l1.length : Int) := of_decide_eq_true (by first | (with_reducible assumption) | assumption)); (obtain ⟨ad373, e373, hx373_0, hx373_1, hx373_2, hx373_3, hx373_4, hx373_5⟩ := at_T46 HR1.out x7_2 p373 q373); (cases e373); (replace hx373_0 := c1_ HB hx373_0); (replace hx373_1 := c1_ HB hx373_1); (replace hx373_2 := c1_ HB hx373_2); (replace hx373_3 := c1_ HB hx373_3); (replace hx373_4 := c1_ HB hx373_4); (replace hx373_5 := c1_ HB hx373_5)
        (replace p373 := eq_true p373); (replace q373 := eq_true q373); (obtain ⟨Ao13, co13, eo13⟩ := Kd.R_slice HO_5.out); (subst eo13)
        go_wp2_with (first | ((with_reducible refine gate_callee (f := 92) rfl ?_); refine goesL_ (some 32) rfl rfl Try.func92 (by kernel_rfl) rfl #[.slice Ao13 x5_2.length co13, .agg #[.int .u8 ((rd_T46 l1 x7_2).f0), .int .i64 ((rd_T46 l1 x7_2).f1), .string ((rd_T46 l1 x7_2).f2), .string ((rd_T46 l1 x7_2).f3), .string ((rd_T46 l1 x7_2).f4), .int .u64 ((rd_T46 l1 x7_2).f5)]] rfl (by (try simp only [List.map_toArray, List.map_cons, List.map_nil]); first | done | rfl) ?_; (with_reducible refine (catchmentref12_into.calls k2 _ _ x5_2 ((rd_T46 l1 x7_2).f0) ((rd_T46 l1 x7_2).f1) ((rd_T46 l1 x7_2).f2) ((rd_T46 l1 x7_2).f3) ((rd_T46 l1 x7_2).f4) ((rd_T46 l1 x7_2).f5) t374 _ ?side1 ?side2 A12.out).mono ?_); (case side1 => exact q47_1); (case side2 => exact (Kd.R_reads' HO_5.out).2.1); rintro e w14 ⟨v375, rfl, ho0, hb⟩; refine ⟨_, rfl, ?_⟩; have HO376 := Aside0.mk (Kd.R_lower (Kd.R_new' ho0 (Kd.R_lt (q47_2))) (below_size (q47_0))); replace HO_5 := Aside0.mk (Kd.R_elder' (q47_2) (Kd.R_base ho0) hb); replace HB := Aside0.mk (below_step (q47_0) hb); (try clear hb); (try clear hb2); (try clear hk); (try clear hi); (try clear ho0)))
        go_roundg k2
        case measure => have := HK1.out; have := HK2.out; omega
        case rel => exact ⟨(t374), (wrap64 (x7_2 + 1)), (by first | rfl | (simp; done) | (simp [*]; done)), H', ⟨by have := HK1.out; have := HK2.out; omega⟩, ⟨by (with_reducible repeat (first | apply Kd.R_alloc | apply Kd.R_drewN | apply Kd.R_drew)); exact Kd.R_mono HO376.out (fun _ hk => trivial)⟩, ⟨q47_0⟩⟩
       ·rw [if_neg c11] at H
        exact absurd H (by simp)
      ·rw [if_neg c10] at H
       (have c10b0 : decide (x7_2 < (l1.length : Int)) = false := decide_eq_false c10); (clear c10); (obtain rfl := Option.some.inj H); (go_wp2); (go_ret); (exact ⟨_, by first | rfl | (simp [*, errW_none, errW_some] <;> rfl), q47_2, q47_0⟩)

end Go.Proofs.Ytnklnjghecmihaa.L2
