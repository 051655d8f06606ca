-- written by a program of this session (wip/myprint.py), over the kit's printer and the session's own contracts
import Derived.Test.YtpfikmchimlneaaM1x0
namespace Go.Proofs.Ytpfikmchimlneaa.M1
open Go.RowKit Go.Proofs.YtpfikmchimlneaaW.PrintWords Go.Proofs.YtpfikmchimlneaaW.PrintLast Go.Proofs.YtpfikmchimlneaaW.PrintMore Go.Proofs.YtpfikmchimlneaaW.Mine
attribute [local go_sem] max2_int min2_int max_two min_two max_three min_three max_four min_four max2_str min2_str binOp_gtr_str binOp_leq_str binOp_geq_str   -- for this text's walks alone
set_option linter.unusedVariables false
set_option linter.unusedSimpArgs false

/-! ### catchmentref11_Make: function 48 -/
mutual
def catchmentref11_Make.j0 : Nat → List (S85) → Int → Option ((List (List (S85))))
  | 0, _, _ => none
  | k + 1, x0, x1 => catchmentref11_Make.l0 k x0 x1 (([] : List (List (S85)))) 0
def catchmentref11_Make.l0 : Nat → List (S85) → Int → List (List (S85)) → Int → Option ((List (List (S85))))
  | 0, _, _, _, _ => none
  | k + 1, x0, x1, x5, x6 => if (wrap64 (x6 * x1)) < (x0.length : Int) then (catchmentref11_Make.l0 k x0 x1 x5 (wrap64 (x6 + 1))) else (catchmentref11_Make.l1 k x0 x5 x6 0 1)
def catchmentref11_Make.l1 : Nat → List (S85) → List (List (S85)) → Int → Int → Int → Option ((List (List (S85))))
  | 0, _, _, _, _, _ => none
  | k + 1, x0, x5, x6, x7, x8 => if x8 ≤ x6 then (if x6 = 0 then (none) else ((some (([] : List (S85)) : List (S85))).bind fun y268 => (if 0 ≤ x7 then (if x7 ≤ (wrap64 (Int.tdiv (wrap64 ((x0.length : Int) * x8)) x6)) then (if (wrap64 (Int.tdiv (wrap64 ((x0.length : Int) * x8)) x6)) ≤ (x0.length : Int) then ((some ((x0.take ((wrap64 (Int.tdiv (wrap64 ((x0.length : Int) * x8)) x6)) : Int).toNat).drop (x7 : Int).toNat : List (S85))).bind fun y271 => (if y268.length + y271.length < 4398046511104 then (if x5.length < 5864062014805 then (catchmentref11_Make.l1 k x0 (x5 ++ [(y268 ++ y271)]) x6 (wrap64 (Int.tdiv (wrap64 ((x0.length : Int) * x8)) x6)) (wrap64 (x8 + 1))) else (none)) else (none))) else (none)) else (none)) else (none)))) else (some x5)
end
def catchmentref11_Make.f (k : Nat) (l0 : List (S85)) (a1 : Int) : Option ((List (List (S85)))) := if a1 < 2 then (catchmentref11_Make.j0 k l0 2) else (catchmentref11_Make.j0 k l0 a1)
theorem catchmentref11_Make.mono_l : ∀ k, (∀ y0 y1, LeO (catchmentref11_Make.j0 k y0 y1) (catchmentref11_Make.j0 (k + 1) y0 y1)) ∧ (∀ y0 y1 y2 y3, LeO (catchmentref11_Make.l0 k y0 y1 y2 y3) (catchmentref11_Make.l0 (k + 1) y0 y1 y2 y3)) ∧ (∀ y0 y1 y2 y3 y4, LeO (catchmentref11_Make.l1 k y0 y1 y2 y3 y4) (catchmentref11_Make.l1 (k + 1) y0 y1 y2 y3 y4))
  | 0 => ⟨fun _ _ r h => by simp [catchmentref11_Make.j0] at h, fun _ _ _ _ r h => by simp [catchmentref11_Make.l0] at h, fun _ _ _ _ _ r h => by simp [catchmentref11_Make.l1] at h⟩
  | k + 1 => by
    obtain ⟨ih0, ih1, ih2⟩ := catchmentref11_Make.mono_l k
    refine ⟨?_, ?_, ?_⟩
    · intro y0 y1
      unfold catchmentref11_Make.j0
      repeat' first
      | (with_reducible exact ih0 _ _)
      | (with_reducible exact ih1 _ _ _ _)
      | (with_reducible exact ih2 _ _ _ _ _)
      | (with_reducible exact LeO.refl _)
      | (with_reducible exact LeO.none _)
      | (with_reducible refine LeO.ite ?_ ?_)
      | (with_reducible refine LeO.bind ?_ (fun _ => ?_))
      | exact ih0 _ _
      | exact ih1 _ _ _ _
      | exact ih2 _ _ _ _ _
      | exact LeO.none _
      | refine LeO.ite ?_ ?_
      | refine LeO.bind ?_ (fun _ => ?_)
    · intro y0 y1 y2 y3
      unfold catchmentref11_Make.l0
      repeat' first
      | (with_reducible exact ih0 _ _)
      | (with_reducible exact ih1 _ _ _ _)
      | (with_reducible exact ih2 _ _ _ _ _)
      | (with_reducible exact LeO.refl _)
      | (with_reducible exact LeO.none _)
      | (with_reducible refine LeO.ite ?_ ?_)
      | (with_reducible refine LeO.bind ?_ (fun _ => ?_))
      | exact ih0 _ _
      | exact ih1 _ _ _ _
      | exact ih2 _ _ _ _ _
      | exact LeO.none _
      | refine LeO.ite ?_ ?_
      | refine LeO.bind ?_ (fun _ => ?_)
    · intro y0 y1 y2 y3 y4
      unfold catchmentref11_Make.l1
      repeat' first
      | (with_reducible exact ih0 _ _)
      | (with_reducible exact ih1 _ _ _ _)
      | (with_reducible exact ih2 _ _ _ _ _)
      | (with_reducible exact LeO.refl _)
      | (with_reducible exact LeO.none _)
      | (with_reducible refine LeO.ite ?_ ?_)
      | (with_reducible refine LeO.bind ?_ (fun _ => ?_))
      | exact ih0 _ _
      | exact ih1 _ _ _ _
      | exact ih2 _ _ _ _ _
      | exact LeO.none _
      | refine LeO.ite ?_ ?_
      | refine LeO.bind ?_ (fun _ => ?_)
theorem catchmentref11_Make.mono : ∀ a0 a1 k, LeO (catchmentref11_Make.f k a0 a1) (catchmentref11_Make.f (k + 1) a0 a1) := by
  (intro a0 a1 k); (obtain ⟨ih0, ih1, ih2⟩ := catchmentref11_Make.mono_l k); (unfold catchmentref11_Make.f)
  repeat' first
      | (with_reducible exact ih0 _ _)
      | (with_reducible exact ih1 _ _ _ _)
      | (with_reducible exact ih2 _ _ _ _ _)
      | (with_reducible exact LeO.refl _)
      | (with_reducible exact LeO.none _)
      | (with_reducible refine LeO.ite ?_ ?_)
      | (with_reducible refine LeO.bind ?_ (fun _ => ?_))
      | exact ih0 _ _
      | exact ih1 _ _ _ _
      | exact ih2 _ _ _ _ _
      | exact LeO.none _
      | refine LeO.ite ?_ ?_
      | refine LeO.bind ?_ (fun _ => ?_)
set_option maxHeartbeats 8000000 in
set_option maxRecDepth 100000 in
theorem catchmentref11_Make.calls (k : Nat) (A0 : Option Addr) (c0 : Nat) (l0 : List (S85)) (a1 : Int) (r : List (List (S85))) (w : World) (hr0 : Kd.C k85 w A0 l0.length l0) (hc0 : l0.length ≤ c0) (h : catchmentref11_Make.f k l0 a1 = some r) :
    Calls Try.prog 48 #[.slice A0 l0.length c0, .int .i64 a1] w fun e w' => ∃ v0_ : Value, e = .returned (v0_) ∧ Kd.R (Kd.slice 85 k85) 74 w' w.heap.size (fun _ => True) v0_ r ∧ Below w.heap.size w w' := by
  (have HR0 := Aside0.mk hr0); (have HC0 := Aside0.mk hc0); (clear hr0 hc0); (have HB := Aside0.mk (Below.refl w.heap.size w)); (have H : (if a1 < 2 then (catchmentref11_Make.j0 k l0 2) else (catchmentref11_Make.j0 k l0 a1)) = some r := h); (clear h); (have HC3 := Aside0.mk H); (clear H); (go_enter Try.func48, Try.ntmps48); (go_upto_if 11 with (fail)); (go_cut [1] (fun v1 wc => ∃ (kq : Nat) (x1_2 : Int), v1 = .int .i64 x1_2 ∧ Aside0 (catchmentref11_Make.j0 kq l0 x1_2 = some r) ∧ Aside0 (kq ≤ k) ∧ Aside0 (Below w.heap.size w wc)))
  case first =>
    (have H := HC3.out); (clear HC3); (by_cases c4 : a1 < 2)
    · rw [if_pos c4] at H
      (have c4b0 : decide (a1 < 2) = true := decide_eq_true c4); (clear c4); ((first | rw [c4b0] | (simp only [i64_w, i32_w]; rw [c4b0]) | skip)); (have H' := Aside0.mk H); (clear H); (go_wp2); (go_meet)
      case rel => exact ⟨_, (2), (by first | rfl | (simp; done) | (simp [*]; done)), H', ⟨by first | omega | exact Nat.le_refl _⟩, ⟨by repeat (first | (with_reducible first | exact HB.out | apply y1_ | apply y2_ | apply y3_) | exact HB.out)⟩⟩
    · rw [if_neg c4] at H
      (have c4b0 : decide (a1 < 2) = false := decide_eq_false c4); (clear c4); ((first | rw [c4b0] | (simp only [i64_w, i32_w]; rw [c4b0]) | skip)); (have H' := Aside0.mk H); (clear H); (go_wp2); (go_meet)
      case rel => exact ⟨_, (a1), (by first | rfl | (simp; done) | (simp [*]; done)), H', ⟨by first | omega | exact Nat.le_refl _⟩, ⟨by repeat (first | (with_reducible first | exact HB.out | apply y1_ | apply y2_ | apply y3_) | exact HB.out)⟩⟩
  case rest =>
    (clear HC3); (try clear p2); (try clear c4); (try clear c4b0); (obtain ⟨kq, x1_2, rfl, HA, HJ2, HB⟩ := hcut)
    cases kq with
    | zero => exact absurd HA.out (by simp [catchmentref11_Make.j0])
    | succ kj2 =>
      (have H := HA.out); (clear HA); (simp only [catchmentref11_Make.j0] at H); (obtain ⟨y265, hy265⟩ : ∃ y_ : List (List (S85)), y_ = (([] : List (List (S85)))) := ⟨_, rfl⟩); (replace H : (catchmentref11_Make.l0 kj2 l0 x1_2 y265 0) = some r := by first | (rw [hy265]; with_reducible exact H) | (have H2_ := (Option.bind_some _ _).symm.trans H; rw [hy265]; with_reducible exact H2_) | (have H2_ := (Option.bind_some _ _).symm.trans H; with_reducible exact H2_) | with_reducible exact H | (rw [hy265]; exact H) | exact H); (have Ny265 := Aside0.mk hy265); (clear hy265); (have H' := Aside0.mk H); (clear H)
      go_wp2_with (first | ((with_reducible refine gate_dst (N := 12) rfl ?_); refine Kd.R_lit (Kd.slice 85 k85) _ 74 ?hg (N := 12) ?hd (xs := ([] : List (List (S85)))) (inner := []) (ok := fun _ => True) (okp := fun _ => True) ?hr ?hp (fun _ hk => hk) trivial (Below.refl _ _) (Nat.le_refl _) (by simp) ?_; (case hd => rfl); (case hg => rfl); (case hr => first | (go_simp; done) | (go_simp; rfl)); (case hp => exact (Reps.none _ _)); intro v266 w5 ho6 hb hg_ hnew_; clear hg_ hnew_; (first | rw [← Ny265.out] at ho6 | (simp only [Int.reduceToNat] at ho6; rw [← Ny265.out] at ho6)); have n0_ := Aside0.mk (Kd.R_lower ho6 (below_size (by repeat (first | (with_reducible first | exact HB.out | apply y1_ | apply y2_ | apply y3_) | exact HB.out)))); have n1_ := Aside0.mk (below_step (by repeat (first | (with_reducible first | exact HB.out | apply y1_ | apply y2_ | apply y3_) | exact HB.out)) hb); clear HB; have HO267 := n0_; have HB := n1_; clear n0_ n1_; clear hb ho6))
      (try simp only [Act.put, List.setIfInBounds_toArray, List.set_cons_zero, List.set_cons_succ])
      go_loopg [6] kj2 (fun kq v6 w' => ∃ (x6_2 : Int), v6 = .int .i64 x6_2 ∧ Aside0 (catchmentref11_Make.l0 kq l0 x1_2 y265 x6_2 = some r) ∧ Aside0 (kq ≤ kj2) ∧ Aside0 (Kd.R (Kd.slice 85 k85) 74 w' w.heap.size (fun _ => True) v266 y265) ∧ Aside0 (Below w.heap.size w w'))
      case atStart => exact ⟨(0), (by first | rfl | (simp; done) | (simp [*]; done)), H', ⟨Nat.le_refl _⟩, ⟨by (with_reducible repeat (first | apply Kd.R_alloc | apply Kd.R_drewN | apply Kd.R_drew)); exact HO267.out⟩, ⟨by repeat (first | (with_reducible first | exact HB.out | apply y1_ | apply y2_ | apply y3_) | exact HB.out)⟩⟩
      case round =>
        (clear H'); (try clear p2); (try clear c4); (try clear c4b0); (try clear p2); (obtain ⟨x6_2, rfl, HA, HK2, HO_5, HB⟩ := hrel)
        cases gk with
        | zero => exact absurd HA.out (by simp [catchmentref11_Make.l0])
        | succ k2 =>
          (have H := HA.out); (clear HA); (simp only [catchmentref11_Make.l0] at H); (by_cases c7 : (wrap64 (x6_2 * x1_2)) < (l0.length : Int))
          · rw [if_pos c7] at H
            (have c7b0 : decide ((wrap64 (x6_2 * x1_2)) < (l0.length : Int)) = true := decide_eq_true c7); (clear c7); (have H' := Aside0.mk H); (clear H); (go_wp2); (go_roundg k2)
            case measure => have := HJ2.out; have := HK2.out; omega
            case rel => exact ⟨(wrap64 (x6_2 + 1)), (by first | rfl | (simp; done) | (simp [*]; done)), H', ⟨by have := HJ2.out; have := HK2.out; omega⟩, ⟨by (with_reducible repeat (first | apply Kd.R_alloc | apply Kd.R_drewN | apply Kd.R_drew)); exact HO_5.out⟩, ⟨by repeat (first | (with_reducible first | exact HB.out | apply y1_ | apply y2_ | apply y3_) | exact HB.out)⟩⟩
          · rw [if_neg c7] at H
            (have c7b0 : decide ((wrap64 (x6_2 * x1_2)) < (l0.length : Int)) = false := decide_eq_false c7); (clear c7); (have H' := Aside0.mk H); (clear H); (go_wp2); (go_loopg [5, 7, 8] k2 (fun kq v5 v7 v8 w' => ∃ (x5_3 : List (List (S85))) (x7_3 : Int) (x8_3 : Int), v7 = .int .i64 x7_3 ∧ v8 = .int .i64 x8_3 ∧ Aside0 (catchmentref11_Make.l1 kq l0 x5_3 x6_2 x7_3 x8_3 = some r) ∧ Aside0 (kq ≤ k2) ∧ Aside0 (Kd.R (Kd.slice 85 k85) 74 w' w.heap.size (fun _ => True) v5 x5_3) ∧ Aside0 (Below w.heap.size w w')))
            case atStart => exact ⟨(y265), (0), (1), (by first | rfl | (simp; done) | (simp [*]; done)), (by first | rfl | (simp; done) | (simp [*]; done)), H', ⟨Nat.le_refl _⟩, ⟨by (with_reducible repeat (first | apply Kd.R_alloc | apply Kd.R_drewN | apply Kd.R_drew)); exact HO_5.out⟩, ⟨by repeat (first | (with_reducible first | exact HB.out | apply y1_ | apply y2_ | apply y3_) | exact HB.out)⟩⟩
            case round =>
              (clear H'); (try clear p2); (try clear c4); (try clear c4b0); (try clear p6); (try clear c7); (try clear c7b0); (try clear p2); (obtain ⟨x5_3, x7_3, x8_3, rfl, rfl, HA, HK3, HO_5, HB⟩ := hrel)
              cases gk with
              | zero => exact absurd HA.out (by simp [catchmentref11_Make.l1])
              | succ k3 =>
                (have H := HA.out); (clear HA); (simp only [catchmentref11_Make.l1] at H); (by_cases c8 : x8_3 ≤ x6_2)
                · rw [if_pos c8] at H
                  (have c8b0 : decide (x8_3 ≤ x6_2) = true := decide_eq_true c8); (clear c8); (by_cases c9 : x6_2 = 0)
                  · rw [if_pos c9] at H
                    exact absurd H (by simp)
                  · rw [if_neg c9] at H
                    (have c9b0 : (x6_2 == 0) = false := beq_eq_false_iff_ne.mpr c9); (have c9b1 : (x6_2 != 0) = true := bne_iff_ne.mpr c9); (obtain ⟨y268, hy268⟩ : ∃ y_ : List (S85), y_ = (([] : List (S85))) := ⟨_, rfl⟩); (replace H : (if 0 ≤ x7_3 then (if x7_3 ≤ (wrap64 (Int.tdiv (wrap64 ((l0.length : Int) * x8_3)) x6_2)) then (if (wrap64 (Int.tdiv (wrap64 ((l0.length : Int) * x8_3)) x6_2)) ≤ (l0.length : Int) then ((some ((l0.take ((wrap64 (Int.tdiv (wrap64 ((l0.length : Int) * x8_3)) x6_2)) : Int).toNat).drop (x7_3 : Int).toNat : List (S85))).bind fun y271 => (if y268.length + y271.length < 4398046511104 then (if x5_3.length < 5864062014805 then (catchmentref11_Make.l1 k3 l0 (x5_3 ++ [(y268 ++ y271)]) x6_2 (wrap64 (Int.tdiv (wrap64 ((l0.length : Int) * x8_3)) x6_2)) (wrap64 (x8_3 + 1))) else (none)) else (none))) else (none)) else (none)) else (none)) = some r := by first | (rw [hy268]; with_reducible exact H) | (have H2_ := (Option.bind_some _ _).symm.trans H; rw [hy268]; with_reducible exact H2_) | (have H2_ := (Option.bind_some _ _).symm.trans H; with_reducible exact H2_) | with_reducible exact H | (rw [hy268]; exact H) | exact H); (have Ny268 := Aside0.mk hy268); (clear hy268)
                    by_cases c10 : 0 ≤ x7_3
                    · rw [if_pos c10] at H
                      (have c10b0 := eq_true c10); (have c10b1 : decide (0 ≤ x7_3) = true := decide_eq_true c10); (clear c10); (by_cases c11 : x7_3 ≤ (wrap64 (Int.tdiv (wrap64 ((l0.length : Int) * x8_3)) x6_2)))
                      · rw [if_pos c11] at H
                        (have c11b0 := eq_true c11); (have c11b1 : decide (x7_3 ≤ (wrap64 (Int.tdiv (wrap64 ((l0.length : Int) * x8_3)) x6_2))) = true := decide_eq_true c11); (clear c11); (by_cases c12 : (wrap64 (Int.tdiv (wrap64 ((l0.length : Int) * x8_3)) x6_2)) ≤ (l0.length : Int))
                        · rw [if_pos c12] at H
                          (have c12b0 := eq_true c12); (have c12b1 : decide ((wrap64 (Int.tdiv (wrap64 ((l0.length : Int) * x8_3)) x6_2)) ≤ (l0.length : Int)) = true := decide_eq_true c12); (clear c12); (obtain ⟨y271, hy271⟩ : ∃ y_ : List (S85), y_ = ((l0.take ((wrap64 (Int.tdiv (wrap64 ((l0.length : Int) * x8_3)) x6_2)) : Int).toNat).drop (x7_3 : Int).toNat) := ⟨_, rfl⟩); (replace H : (if y268.length + y271.length < 4398046511104 then (if x5_3.length < 5864062014805 then (catchmentref11_Make.l1 k3 l0 (x5_3 ++ [(y268 ++ y271)]) x6_2 (wrap64 (Int.tdiv (wrap64 ((l0.length : Int) * x8_3)) x6_2)) (wrap64 (x8_3 + 1))) else (none)) else (none)) = some r := by first | (rw [hy271]; with_reducible exact H) | (have H2_ := (Option.bind_some _ _).symm.trans H; rw [hy271]; with_reducible exact H2_) | (have H2_ := (Option.bind_some _ _).symm.trans H; with_reducible exact H2_) | with_reducible exact H | (rw [hy271]; exact H) | exact H); (have Ny271 := Aside0.mk hy271); (clear hy271); (by_cases c13 : y268.length + y271.length < 4398046511104)
                          · rw [if_pos c13] at H
                            (have LMc13 := Aside0.mk c13); (clear c13); (obtain ⟨y275, hy275⟩ : ∃ y_ : List (S85), y_ = (y268 ++ y271) := ⟨_, rfl⟩); (replace H : (if x5_3.length < 5864062014805 then (catchmentref11_Make.l1 k3 l0 (x5_3 ++ [y275]) x6_2 (wrap64 (Int.tdiv (wrap64 ((l0.length : Int) * x8_3)) x6_2)) (wrap64 (x8_3 + 1))) else (none)) = some r := by first | (rw [hy275]; with_reducible exact H) | (have H2_ := (Option.bind_some _ _).symm.trans H; rw [hy275]; with_reducible exact H2_) | (have H2_ := (Option.bind_some _ _).symm.trans H; with_reducible exact H2_) | with_reducible exact H | (rw [hy275]; exact H) | exact H); (have Ny275 := Aside0.mk hy275); (clear hy275); (by_cases c14 : x5_3.length < 5864062014805)
                            · rw [if_pos c14] at H
                              (have LMc14 := Aside0.mk c14); (clear c14); (obtain ⟨y278, hy278⟩ : ∃ y_ : List (List (S85)), y_ = (x5_3 ++ [y275]) := ⟨_, rfl⟩); (replace H : (catchmentref11_Make.l1 k3 l0 y278 x6_2 (wrap64 (Int.tdiv (wrap64 ((l0.length : Int) * x8_3)) x6_2)) (wrap64 (x8_3 + 1))) = some r := by first | (rw [hy278]; with_reducible exact H) | (have H2_ := (Option.bind_some _ _).symm.trans H; rw [hy278]; with_reducible exact H2_) | (have H2_ := (Option.bind_some _ _).symm.trans H; with_reducible exact H2_) | with_reducible exact H | (rw [hy278]; exact H) | exact H); (have Ny278 := Aside0.mk hy278); (clear hy278); (have H' := Aside0.mk H); (clear H)
                              go_wp2_with (first | ((with_reducible refine gate_dst (N := 33) rfl ?_); refine Kd.R_lit k85 _ 85 ?hg (N := 33) ?hd (xs := ([] : List (S85))) (inner := []) (ok := fun _ => True) (okp := fun _ => True) ?hr ?hp (fun _ hk => hk) trivial (Below.refl _ _) (Nat.le_refl _) (by simp) ?_; (case hd => rfl); (case hg => rfl); (case hr => first | (go_simp; done) | (go_simp; rfl)); (case hp => exact (Reps.none _ _)); intro v269 w15 ho16 hb hg_ hnew_; clear hg_ hnew_; (first | rw [← Ny268.out] at ho16 | (simp only [Int.reduceToNat] at ho16; rw [← Ny268.out] at ho16)); have n0_ := Aside0.mk (Kd.R_elder' (by (with_reducible repeat (first | apply Kd.R_alloc | apply Kd.R_drewN | apply Kd.R_drew)); exact HO_5.out) (Kd.R_base ho16) hb); have n1_ := Aside0.mk (Kd.R_lower ho16 (below_size (by repeat (first | (with_reducible first | exact HB.out | apply y1_ | apply y2_ | apply y3_) | exact HB.out)))); have n2_ := Aside0.mk (below_step (by repeat (first | (with_reducible first | exact HB.out | apply y1_ | apply y2_ | apply y3_) | exact HB.out)) hb); clear HO_5; clear HB; have HO_5 := n0_; have HO270 := n1_; have HB := n2_; clear n0_ n1_ n2_; clear hb ho16; have q17 : ((wrap64 (Int.tdiv (wrap64 ((l0.length : Int) * x8_3)) x6_2)) : Int) ≤ ((l0.length : Int) : Int) := of_decide_eq_true (by first | (with_reducible assumption) | assumption); obtain ⟨i017, hi017, _, hsz17, _⟩ := info_parts info85; have hroom17 : l0.length ≤ c0 := HC0.out; have hC17 : Kd.C k85 _ A0 l0.length l0 := HR0.out; have ql17 : (x7_3 : Int) ≤ ((wrap64 (Int.tdiv (wrap64 ((l0.length : Int) * x8_3)) x6_2)) : Int) := of_decide_eq_true (by first | (with_reducible assumption) | assumption); have q017 : (0 : Int) ≤ (x7_3 : Int) := of_decide_eq_true (by first | (with_reducible assumption) | assumption); have hcut17 := cut_mid (P := Try.prog) 74 85 .i64 .i64 Try.underlying74 hi017 2 hsz17 A0 l0.length c0 x7_3 (wrap64 (Int.tdiv (wrap64 ((l0.length : Int) * x8_3)) x6_2)) q017 ql17 q17 hroom17; have hr17 := Kd.C_mid (lo := (x7_3 : Int).toNat) (hi := ((wrap64 (Int.tdiv (wrap64 ((l0.length : Int) * x8_3)) x6_2)) : Int).toNat) (c := c0) hC17 (by omega) (by omega) hroom17; obtain ⟨A17, hA17⟩ : ∃ A1, A1 = (if c0 = (x7_3 : Int).toNat then A0 else (A0 : Option Addr).map (·.add ((x7_3 : Int).toNat * 2))) := ⟨_, rfl⟩; obtain ⟨c17, hc17⟩ : ∃ c1, c1 = c0 - (x7_3 : Int).toNat := ⟨_, rfl⟩; have hy17 : y271.length = ((wrap64 (Int.tdiv (wrap64 ((l0.length : Int) * x8_3)) x6_2)) : Int).toNat - (x7_3 : Int).toNat := (by rw [Ny271.out, List.length_drop, List.length_take] <;> omega); rw [show ((l0).take ((wrap64 (Int.tdiv (wrap64 ((l0.length : Int) * x8_3)) x6_2)) : Int).toNat).drop (x7_3 : Int).toNat = y271 from Ny271.out.symm] at hr17; replace hr17 : Kd.C k85 _ A17 y271.length y271 := (by rw [hA17]; exact hr17); rw [← hy17, ← hA17, ← hc17] at hcut17; have HR274 := Aside0.mk hr17; have HC274 := Aside0.mk (show y271.length ≤ c17 from by rw [hy17, hc17]; exact Nat.sub_le_sub_right (Nat.le_trans (by omega) hroom17) _); clear hr17 hC17 hroom17 hi017 hsz17 hc17; have KY17 := Aside0.mk hy17; have KA17 := Aside0.mk hA17; clear hy17 hA17; replace q17 := eq_true q17) | ((with_reducible refine gate_builtin (b := .append) (xs := #[.tmp 33, .tmp 37]) rfl ?_); at_builtin; refine Kd.R_append_rows k85 (w0 := w) w.heap.size rfl (.tmp 33) (.tmp 37) 74 85 (.agg #[(.string ⟨#[]⟩), (.string ⟨#[]⟩)]) 32 rfl Try.underlying74 info85 rfl (by decide) (by omega) v269 y268 y271 _ _ _ (fun _ => True) (fun _ => False) rfl rfl ?aO ?aR (fun _ _ h => h) (fun _ h => h.elim) ?aF ?aB ?aS ?aL ?_; (case aR => repeat (first | exact (Kd.C_below HR274.out HB.out) | (with_reducible refine Kd.C_alloc ?_ _) | (with_reducible refine Kd.C_drewN ?_ _) | (with_reducible refine Kd.C_drew ?_))); (case aB => exact (by repeat (first | (with_reducible first | exact HB.out | apply y1_ | apply y2_ | apply y3_) | exact HB.out))); (case aF => exact (fun _ _ => trivial)); (case aO => exact (by (with_reducible repeat (first | apply Kd.R_alloc | apply Kd.R_drewN | apply Kd.R_drew)); exact HO270.out)); (case aS => exact (below_size (by repeat (first | (with_reducible first | exact HB.out | apply y1_ | apply y2_ | apply y3_) | exact HB.out)))); (case aL => have := LMc13.out; omega); intro v276 w18 ho hb hg hat; rw [← Ny275.out] at ho; have n0_ := Aside0.mk (Kd.R_after (ok := (fun _ => True)) (by (with_reducible repeat (first | apply Kd.R_alloc | apply Kd.R_drewN | apply Kd.R_drew)); exact HO_5.out) hg hat); have n1_ := Aside0.mk (hb); have n2_ := Aside0.mk (ho); clear HO_5; clear HB; clear HO270; have HO_5 := n0_; have HB := n1_; have HO277 := n2_; clear n0_ n1_ n2_; clear ho hb hg hat; obtain ⟨Ao20, co20, eo20⟩ := Kd.R_slice HO277.out; subst eo20) | ((with_reducible refine gate_builtin (b := .append) (xs := #[.tmp 32, .tmp 39]) rfl ?_); at_builtin; refine Kd.R_append (Kd.slice 85 k85) (w0 := w) w.heap.size rfl (.tmp 32) (.tmp 39) 59 74 (.slice none 0 0) 24 rfl Try.underlying59 info74 rfl (by decide) (by omega) u5 x5_3 y275 [.slice Ao20 y275.length co20] (fun _ => True) (fun k_ => ((fun _ => True)) k_ ∧ some k_ ≠ (u5 : Value).ownBlock) rfl rfl ?aP (fun _ hk => hk) ?aF ?aO ?aB ?aS ?aL ?_; (case aP => exact Kd.M_row (Kd.R_mono (Kd.R_apart' (HO277.out) (Kd.R_typed HO_5.out) (by decide)) (fun k_ hk => ⟨trivial, hk.2⟩))); (case aB => exact (by repeat (first | (with_reducible first | exact HB.out | apply y1_ | apply y2_ | apply y3_) | exact HB.out))); (case aF => exact (fun _ _ => trivial)); (case aO => exact (by (with_reducible repeat (first | apply Kd.R_alloc | apply Kd.R_drewN | apply Kd.R_drew)); exact Kd.R_mono HO_5.out (fun _ hk => trivial))); (case aS => exact (below_size (by repeat (first | (with_reducible first | exact HB.out | apply y1_ | apply y2_ | apply y3_) | exact HB.out)))); (case aL => have := LMc14.out; omega); intro v279 w19 ho hb hg hat; rw [← Ny278.out] at ho; have n0_ := Aside0.mk (hb); have n1_ := Aside0.mk (ho); clear HB; clear HO_5; clear HO277; have HB := n0_; have HO280 := n1_; clear n0_ n1_; clear ho hb hg hat))
                              go_roundg k3
                              case measure => have := HJ2.out; have := HK2.out; have := HK3.out; omega
                              case rel => exact ⟨(y278), (wrap64 (Int.tdiv (wrap64 ((l0.length : Int) * x8_3)) x6_2)), (wrap64 (x8_3 + 1)), (by first | rfl | (simp; done) | (simp [*]; done)), (by first | rfl | (simp; done) | (simp [*]; done)), H', ⟨by have := HJ2.out; have := HK2.out; have := HK3.out; omega⟩, ⟨by (with_reducible repeat (first | apply Kd.R_alloc | apply Kd.R_drewN | apply Kd.R_drew)); exact HO280.out⟩, ⟨by repeat (first | (with_reducible first | exact HB.out | apply y1_ | apply y2_ | apply y3_) | exact HB.out)⟩⟩
                            · rw [if_neg c14] at H
                              exact absurd H (by simp)
                          · rw [if_neg c13] at H
                            exact absurd H (by simp)
                        · rw [if_neg c12] at H
                          exact absurd H (by simp)
                      · rw [if_neg c11] at H
                        exact absurd H (by simp)
                    · rw [if_neg c10] at H
                      exact absurd H (by simp)
                · rw [if_neg c8] at H
                  (have c8b0 : decide (x8_3 ≤ x6_2) = false := decide_eq_false c8); (clear c8); (obtain rfl := Option.some.inj H); (go_wp2); (go_ret); (exact ⟨_, by first | rfl | (simp [errW_none, errW_some] <;> rfl) | (simp [*, errW_none, errW_some] <;> rfl), by (with_reducible repeat (first | apply Kd.R_alloc | apply Kd.R_drewN | apply Kd.R_drew)); exact HO_5.out, by repeat (first | (with_reducible first | exact HB.out | apply y1_ | apply y2_ | apply y3_) | exact HB.out)⟩)

end Go.Proofs.Ytpfikmchimlneaa.M1
