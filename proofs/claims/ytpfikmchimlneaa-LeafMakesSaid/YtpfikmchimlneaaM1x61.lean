-- written by a program of this session (wip/myprint.py), over the kit's printer and the session's own contracts
import Derived.Test.YtpfikmchimlneaaM1x0
import Derived.Test.YtpfikmchimlneaaM1P0
namespace Go.Proofs.Ytpfikmchimlneaa.M1
open Go.RowKit Go.Proofs.YtpfikmchimlneaaW.PrintWords Go.Proofs.YtpfikmchimlneaaW.PrintLast Go.Proofs.YtpfikmchimlneaaW.PrintMore Go.Proofs.YtpfikmchimlneaaW.Mine
attribute [local go_sem] max2_int min2_int max_two min_two max_three min_three max_four min_four max2_str min2_str binOp_gtr_str binOp_leq_str binOp_geq_str   -- for this text's walks alone
set_option linter.unusedVariables false
set_option linter.unusedSimpArgs false

/-! ### leaf_Make: function 47 -/
mutual
def leaf_Make.j0 : Nat → List (S85) → Int → Int → Option ((List (List (S85))))
  | 0, _, _, _ => none
  | k + 1, x0, x5, x6 => leaf_Make.l0 k x0 x5 x6 ([] : List (List (S85))) x6 0
def leaf_Make.l0 : Nat → List (S85) → Int → Int → List (List (S85)) → Int → Int → Option ((List (List (S85))))
  | 0, _, _, _, _, _, _ => none
  | k + 1, x0, x5, x6, x7, x22, x23 => if x23 < x22 then (if x6 = 0 then (none) else (if 0 ≤ (wrap64 (Int.tdiv (wrap64 (x5 * x23)) x6)) then (if (wrap64 (Int.tdiv (wrap64 (x5 * x23)) x6)) ≤ (wrap64 (Int.tdiv (wrap64 (x5 * (wrap64 (x23 + 1)))) x6)) then (if (wrap64 (Int.tdiv (wrap64 (x5 * (wrap64 (x23 + 1)))) x6)) ≤ (x0.length : Int) then ((api_Entry_86.f ((x0.take ((wrap64 (Int.tdiv (wrap64 (x5 * (wrap64 (x23 + 1)))) x6)) : Int).toNat).drop ((wrap64 (Int.tdiv (wrap64 (x5 * x23)) x6)) : Int).toNat)).bind fun t259 => (if x7.length < 5864062014805 then (leaf_Make.l0 k x0 x5 x6 (x7 ++ [t259]) x22 (wrap64 (x23 + 1))) else (none))) else (none)) else (none)) else (none))) else (some x7)
end
def leaf_Make.f (k : Nat) (l0 : List (S85)) (a1 : Int) : Option ((List (List (S85)))) := if (mx a1 2) = 0 then (none) else (if ((l0.length : Int) % (mx a1 2)) > 0 then (leaf_Make.j0 k l0 (l0.length : Int) (wrap64 ((wrap64 ((l0.length : Int) / (mx a1 2))) + 1))) else (leaf_Make.j0 k l0 (l0.length : Int) (wrap64 ((l0.length : Int) / (mx a1 2)))))
theorem leaf_Make.mono_l : ∀ k, (∀ y0 y1 y2, LeO (leaf_Make.j0 k y0 y1 y2) (leaf_Make.j0 (k + 1) y0 y1 y2)) ∧ (∀ y0 y1 y2 y3 y4 y5, LeO (leaf_Make.l0 k y0 y1 y2 y3 y4 y5) (leaf_Make.l0 (k + 1) y0 y1 y2 y3 y4 y5))
  | 0 => ⟨fun _ _ _ r h => by simp [leaf_Make.j0] at h, fun _ _ _ _ _ _ r h => by simp [leaf_Make.l0] at h⟩
  | k + 1 => by
    obtain ⟨ih0, ih1⟩ := leaf_Make.mono_l k
    refine ⟨?_, ?_⟩
    · intro y0 y1 y2
      unfold leaf_Make.j0
      repeat' first
      | (with_reducible exact ih0 _ _ _)
      | (with_reducible exact ih1 _ _ _ _ _ _)
      | (with_reducible exact LeO.refl _)
      | (with_reducible exact LeO.none _)
      | (with_reducible refine LeO.ite ?_ ?_)
      | (with_reducible refine LeO.bind ?_ (fun _ => ?_))
      | exact ih0 _ _ _
      | exact ih1 _ _ _ _ _ _
      | exact LeO.none _
      | refine LeO.ite ?_ ?_
      | refine LeO.bind ?_ (fun _ => ?_)
    · intro y0 y1 y2 y3 y4 y5
      unfold leaf_Make.l0
      repeat' first
      | (with_reducible exact ih0 _ _ _)
      | (with_reducible exact ih1 _ _ _ _ _ _)
      | (with_reducible exact LeO.refl _)
      | (with_reducible exact LeO.none _)
      | (with_reducible refine LeO.ite ?_ ?_)
      | (with_reducible refine LeO.bind ?_ (fun _ => ?_))
      | exact ih0 _ _ _
      | exact ih1 _ _ _ _ _ _
      | exact LeO.none _
      | refine LeO.ite ?_ ?_
      | refine LeO.bind ?_ (fun _ => ?_)
theorem leaf_Make.mono : ∀ a0 a1 k, LeO (leaf_Make.f k a0 a1) (leaf_Make.f (k + 1) a0 a1) := by
  (intro a0 a1 k); (obtain ⟨ih0, ih1⟩ := leaf_Make.mono_l k); (unfold leaf_Make.f)
  repeat' first
      | (with_reducible exact ih0 _ _ _)
      | (with_reducible exact ih1 _ _ _ _ _ _)
      | (with_reducible exact LeO.refl _)
      | (with_reducible exact LeO.none _)
      | (with_reducible refine LeO.ite ?_ ?_)
      | (with_reducible refine LeO.bind ?_ (fun _ => ?_))
      | exact ih0 _ _ _
      | exact ih1 _ _ _ _ _ _
      | exact LeO.none _
      | refine LeO.ite ?_ ?_
      | refine LeO.bind ?_ (fun _ => ?_)
def leaf_Make.T9 : Bool × List (List Nat × List Nat) := (true, [([], []), ([], []), ([], []), ([], []), ([2, 3], [2, 3]), ([], []), ([4, 5], [4, 5]), ([], []), ([], []), ([8], [8]), ([7, 9], [7, 9]), ([], []), ([10, 11], [10, 11]), ([1, 6, 12], [1, 6, 12]), ([13], [13]), ([14], [14]), ([0, 15, 14], [0, 15]), ([16, 16, 0, 1, 2, 3, 4, 5, 6, 7, 8, 9, 10, 11, 12, 13, 14, 15, 16], [0, 16])])
def leaf_Make.B9 : List Nat := [0, 0, 0, 0, 12, 0, 60, 0, 0, 256, 896, 0, 3968, 8190, 16382, 32766, 65535, 131071]
theorem leaf_Make.tab9 : rtab .any (opsOf Try.f47 9) = leaf_Make.T9 := by kernel_rfl
theorem leaf_Make.bits9 : waitsOk leaf_Make.T9.2 leaf_Make.B9 = true := by kernel_rfl
set_option maxHeartbeats 8000000 in
set_option maxRecDepth 100000 in
theorem leaf_Make.calls (k : Nat) (A0 : Option Addr) (c0 : Nat) (l0 : List (S85)) (a1 : Int) (r : List (List (S85))) (w : World) (hr0 : Kd.C k85 w A0 l0.length l0) (hc0 : l0.length ≤ c0) (h : leaf_Make.f k l0 a1 = some r) :
    Calls Try.prog 47 #[.slice A0 l0.length c0, .int .i64 a1] w fun e w' => ∃ v0_ : Value, e = .returned (v0_) ∧ Kd.R (Kd.slice 85 k85) 74 w' w.heap.size (fun _ => True) v0_ r ∧ Below w.heap.size w w' := by
  (have HR0 := Aside0.mk hr0); (have HC0 := Aside0.mk hc0); (clear hr0 hc0); (have HB := Aside0.mk (Below.refl w.heap.size w)); (have H : (if (mx a1 2) = 0 then (none) else (if ((l0.length : Int) % (mx a1 2)) > 0 then (leaf_Make.j0 k l0 (l0.length : Int) (wrap64 ((wrap64 ((l0.length : Int) / (mx a1 2))) + 1))) else (leaf_Make.j0 k l0 (l0.length : Int) (wrap64 ((l0.length : Int) / (mx a1 2)))))) = some r := h); (clear h); (obtain ⟨ji3, hji3⟩ : ∃ j_ : Int, (mx a1 2) = j_ := ⟨_, rfl⟩); (replace H : (if (ji3) = 0 then (none) else (if ((l0.length : Int) % (ji3)) > 0 then (leaf_Make.j0 k l0 (l0.length : Int) (wrap64 ((wrap64 ((l0.length : Int) / (ji3))) + 1))) else (leaf_Make.j0 k l0 (l0.length : Int) (wrap64 ((l0.length : Int) / (ji3)))))) = some r := by first | (rw [hji3] at H; exact H) | (simp only [hji3] at H ⊢; exact H)); ((try (have hji3l : 2 ≤ ji3 := by (rw [← hji3]; unfold mx; (repeat' split) <;> omega)))); ((try (have hji3m : 0 ≤ ji3 := by omega))); (have hji3_ : (if a1 < 2 then 2 else a1) = ji3 := hji3); (by_cases c4 : (ji3) = 0)
  · rw [if_pos c4] at H
    exact absurd H (by simp)
  · rw [if_neg c4] at H
    (have c4b0 : ((ji3) == 0) = false := beq_eq_false_iff_ne.mpr c4); (have c4b1 : ((ji3) != 0) = true := bne_iff_ne.mpr c4); (have HC5 := Aside0.mk H); (clear H); (go_enter Try.func47, Try.ntmps47); (go_upto_if 19 with (fail)); (go_cut [6] (fun v6 wc => ∃ (kq : Nat) (x6_4 : Int), v6 = .int .i64 x6_4 ∧ Aside0 (leaf_Make.j0 kq l0 (l0.length : Int) x6_4 = some r) ∧ Aside0 (kq ≤ k) ∧ Aside0 (Below w.heap.size w wc)))
    case first =>
      (have H := HC5.out); (clear HC5); (by_cases c6 : ((l0.length : Int) % (ji3)) > 0)
      · rw [if_pos c6] at H
        (have c6b0 : decide (0 < ((l0.length : Int) % (ji3))) = true := decide_eq_true c6); (clear c6); ((first | rw [c6b0] | (simp only [i64_w, i32_w]; rw [c6b0]) | skip)); (have H' := Aside0.mk H); (clear H); (go_wp2); (go_meet)
        case rel => exact ⟨_, (wrap64 ((wrap64 ((l0.length : Int) / (ji3))) + 1)), (by first | rfl | (simp; done) | (simp only [← hji3] <;> (first | rfl | simp)) | (simp [*]; done)), H', ⟨by first | omega | exact Nat.le_refl _⟩, ⟨by repeat (first | (with_reducible first | exact HB.out | apply y1_ | apply y2_ | apply y3_) | exact HB.out)⟩⟩
      · rw [if_neg c6] at H
        (have c6b0 : decide (0 < ((l0.length : Int) % (ji3))) = false := decide_eq_false c6); (clear c6); ((first | rw [c6b0] | (simp only [i64_w, i32_w]; rw [c6b0]) | skip)); (have H' := Aside0.mk H); (clear H); (go_wp2); (go_meet)
        case rel => exact ⟨_, (wrap64 ((l0.length : Int) / (ji3))), (by first | rfl | (simp; done) | (simp only [← hji3] <;> (first | rfl | simp)) | (simp [*]; done)), H', ⟨by first | omega | exact Nat.le_refl _⟩, ⟨by repeat (first | (with_reducible first | exact HB.out | apply y1_ | apply y2_ | apply y3_) | exact HB.out)⟩⟩
    case rest =>
      (clear HC5); (try clear p2); (try clear c4); (try clear c4b0); (try clear c4b1); (try clear c6); (try clear c6b0); (try clear p6); (obtain ⟨kq, x6_4, rfl, HA, HJ4, HB⟩ := hcut)
      cases kq with
      | zero => exact absurd HA.out (by simp [leaf_Make.j0])
      | succ kj4 =>
        (have H := HA.out); (clear HA); (simp only [leaf_Make.j0] at H); (have H' := Aside0.mk H); (clear H); (go_wp2); (go_loopg [7, 23] kj4 (fun kq v7 v23 w' => ∃ (x7_2 : List (List (S85))) (x23_2 : Int), v23 = .int .i64 x23_2 ∧ Aside0 (leaf_Make.l0 kq l0 (l0.length : Int) x6_4 x7_2 x6_4 x23_2 = some r) ∧ Aside0 (kq ≤ kj4) ∧ Aside0 (Kd.R (Kd.slice 85 k85) 74 w' w.heap.size (fun _ => True) v7 x7_2) ∧ Aside0 (Below w.heap.size w w')))
        case atStart => exact ⟨(([] : List (List (S85)))), (0), (by first | rfl | (simp; done) | (simp [*]; done)), H', ⟨Nat.le_refl _⟩, ⟨by first | exact Kd.R_nil _ _ _ _ _ | exact Kd.N_nil _ _ _ _ _ | exact Kd.V_nil _ _ _ _ _ | exact Kd.Q_nil _ _ _ _ _ | exact Kd.S_nil _ _ _ _ _⟩, ⟨by repeat (first | (with_reducible first | exact HB.out | apply y1_ | apply y2_ | apply y3_) | exact HB.out)⟩⟩
        case round =>
          (clear H'); (try clear p2); (try clear c4); (try clear c4b0); (try clear c4b1); (try clear c6); (try clear c6b0); (try clear p6); (try clear p2); (try clear p6); (obtain ⟨x7_2, x23_2, rfl, HA, HK2, HO_7, HB⟩ := hrel)
          cases gk with
          | zero => exact absurd HA.out (by simp [leaf_Make.l0])
          | succ k2 =>
            (have H := HA.out); (clear HA); (simp only [leaf_Make.l0] at H); (by_cases c7 : x23_2 < x6_4)
            · rw [if_pos c7] at H
              (have c7b0 : decide (x23_2 < x6_4) = true := decide_eq_true c7); (clear c7); (by_cases c8 : x6_4 = 0)
              · rw [if_pos c8] at H
                exact absurd H (by simp)
              · rw [if_neg c8] at H
                (have c8b0 : (x6_4 == 0) = false := beq_eq_false_iff_ne.mpr c8); (have c8b1 : (x6_4 != 0) = true := bne_iff_ne.mpr c8); (obtain ⟨ji9, hji9⟩ : ∃ j_ : Int, (wrap64 (Int.tdiv (wrap64 ((l0.length : Int) * x23_2)) x6_4)) = j_ := ⟨_, rfl⟩); (replace H : (if 0 ≤ (ji9) then (if (ji9) ≤ (wrap64 (Int.tdiv (wrap64 ((l0.length : Int) * (wrap64 (x23_2 + 1)))) x6_4)) then (if (wrap64 (Int.tdiv (wrap64 ((l0.length : Int) * (wrap64 (x23_2 + 1)))) x6_4)) ≤ (l0.length : Int) then ((api_Entry_86.f ((l0.take ((wrap64 (Int.tdiv (wrap64 ((l0.length : Int) * (wrap64 (x23_2 + 1)))) x6_4)) : Int).toNat).drop ((ji9) : Int).toNat)).bind fun t259 => (if x7_2.length < 5864062014805 then (leaf_Make.l0 k2 l0 (l0.length : Int) x6_4 (x7_2 ++ [t259]) x6_4 (wrap64 (x23_2 + 1))) else (none))) else (none)) else (none)) else (none)) = some r := by first | (rw [hji9] at H; exact H) | (simp only [hji9] at H ⊢; exact H)); (have hji9w : (IntKind.i64.wrap (Int.tdiv (wrap64 ((l0.length : Int) * x23_2)) x6_4)) = ji9 := (i64_w _).trans hji9); (by_cases c10 : 0 ≤ (ji9))
                · rw [if_pos c10] at H
                  (have c10b0 := eq_true c10); (have c10b1 : decide (0 ≤ (ji9)) = true := decide_eq_true c10); (clear c10); (by_cases c11 : (ji9) ≤ (wrap64 (Int.tdiv (wrap64 ((l0.length : Int) * (wrap64 (x23_2 + 1)))) x6_4)))
                  · rw [if_pos c11] at H
                    (have c11b0 := eq_true c11); (have c11b1 : decide ((ji9) ≤ (wrap64 (Int.tdiv (wrap64 ((l0.length : Int) * (wrap64 (x23_2 + 1)))) x6_4))) = true := decide_eq_true c11); (by_cases c12 : (wrap64 (Int.tdiv (wrap64 ((l0.length : Int) * (wrap64 (x23_2 + 1)))) x6_4)) ≤ (l0.length : Int))
                    · rw [if_pos c12] at H
                      (have c12b0 := eq_true c12); (have c12b1 : decide ((wrap64 (Int.tdiv (wrap64 ((l0.length : Int) * (wrap64 (x23_2 + 1)))) x6_4)) ≤ (l0.length : Int)) = true := decide_eq_true c12); (obtain ⟨y255, hy255⟩ : ∃ y_ : List (S85), y_ = ((l0.take ((wrap64 (Int.tdiv (wrap64 ((l0.length : Int) * (wrap64 (x23_2 + 1)))) x6_4)) : Int).toNat).drop ((ji9) : Int).toNat) := ⟨_, rfl⟩); (replace H : ((api_Entry_86.f y255).bind fun t259 => (if x7_2.length < 5864062014805 then (leaf_Make.l0 k2 l0 (l0.length : Int) x6_4 (x7_2 ++ [t259]) x6_4 (wrap64 (x23_2 + 1))) else (none))) = some r := by first | (rw [hy255]; with_reducible exact H) | (have H2_ := (Option.bind_some _ _).symm.trans H; rw [hy255]; with_reducible exact H2_) | (have H2_ := (Option.bind_some _ _).symm.trans H; with_reducible exact H2_) | with_reducible exact H | (rw [hy255]; exact H) | exact H); (have Ny255 := Aside0.mk hy255); (clear hy255); (replace H := Option.bind_eq_some_iff.mp H); (obtain ⟨t259, A130, H⟩ := H); (replace H : (if x7_2.length < 5864062014805 then (leaf_Make.l0 k2 l0 (l0.length : Int) x6_4 (x7_2 ++ [t259]) x6_4 (wrap64 (x23_2 + 1))) else (none)) = some r := H); (have A13 := Aside0.mk A130); (clear A130)
                      by_cases c14 : x7_2.length < 5864062014805
                      · rw [if_pos c14] at H
                        (have LMc14 := Aside0.mk c14); (clear c14); (obtain ⟨y262, hy262⟩ : ∃ y_ : List (List (S85)), y_ = (x7_2 ++ [t259]) := ⟨_, rfl⟩); (replace H : (leaf_Make.l0 k2 l0 (l0.length : Int) x6_4 y262 x6_4 (wrap64 (x23_2 + 1))) = some r := by first | (rw [hy262]; with_reducible exact H) | (have H2_ := (Option.bind_some _ _).symm.trans H; rw [hy262]; with_reducible exact H2_) | (have H2_ := (Option.bind_some _ _).symm.trans H; with_reducible exact H2_) | with_reducible exact H | (rw [hy262]; exact H) | exact H); (have Ny262 := Aside0.mk hy262); (clear hy262); (have H' := Aside0.mk H); (clear H); (try go_wp2); (have n0_ := Aside0.mk (Kd.R_drew HO_7.out)); (have n1_ := Aside0.mk (below_drew1 HB.out)); (clear HO_7 HB); (have HO_7 := n0_); (have HB := n1_); (clear n0_ n1_); (have q16 : ((wrap64 (Int.tdiv (wrap64 ((l0.length : Int) * (wrap64 (x23_2 + 1)))) x6_4)) : Int) ≤ ((l0.length : Int) : Int) := of_decide_eq_true (by first | (with_reducible assumption) | assumption)); (obtain ⟨i016, hi016, _, hsz16, _⟩ := info_parts info85); (have hroom16 : l0.length ≤ c0 := HC0.out); (have hC16 : Kd.C k85 _ A0 l0.length l0 := HR0.out)
                        (have ql16 : ((ji9) : Int) ≤ ((wrap64 (Int.tdiv (wrap64 ((l0.length : Int) * (wrap64 (x23_2 + 1)))) x6_4)) : Int) := of_decide_eq_true (by first | (with_reducible assumption) | assumption)); (have q016 : (0 : Int) ≤ ((ji9) : Int) := of_decide_eq_true (by first | (with_reducible assumption) | assumption)); (have hcut16 := cut_mid (P := Try.prog) 74 85 .i64 .i64 Try.underlying74 hi016 2 hsz16 A0 l0.length c0 (ji9) (wrap64 (Int.tdiv (wrap64 ((l0.length : Int) * (wrap64 (x23_2 + 1)))) x6_4)) q016 ql16 q16 hroom16); (have hr16 := Kd.C_mid (lo := ((ji9) : Int).toNat) (hi := ((wrap64 (Int.tdiv (wrap64 ((l0.length : Int) * (wrap64 (x23_2 + 1)))) x6_4)) : Int).toNat) (c := c0) hC16 (by omega) (by omega) hroom16); (obtain ⟨A16, hA16⟩ : ∃ A1, A1 = (if c0 = ((ji9) : Int).toNat then A0 else (A0 : Option Addr).map (·.add (((ji9) : Int).toNat * 2))) := ⟨_, rfl⟩); (obtain ⟨c16, hc16⟩ : ∃ c1, c1 = c0 - ((ji9) : Int).toNat := ⟨_, rfl⟩); (have hy16 : y255.length = ((wrap64 (Int.tdiv (wrap64 ((l0.length : Int) * (wrap64 (x23_2 + 1)))) x6_4)) : Int).toNat - ((ji9) : Int).toNat := (by rw [Ny255.out, List.length_drop, List.length_take] <;> omega))
                        (rw [show ((l0).take ((wrap64 (Int.tdiv (wrap64 ((l0.length : Int) * (wrap64 (x23_2 + 1)))) x6_4)) : Int).toNat).drop ((ji9) : Int).toNat = y255 from Ny255.out.symm] at hr16); (replace hr16 : Kd.C k85 _ A16 y255.length y255 := (by rw [hA16]; exact hr16)); (rw [← hy16, ← hA16, ← hc16] at hcut16); (have HR258 := Aside0.mk hr16); (have HC258 := Aside0.mk (show y255.length ≤ c16 from by rw [hy16, hc16]; exact Nat.sub_le_sub_right (Nat.le_trans (by omega) hroom16) _)); (clear hr16 hC16 hroom16 hi016 hsz16 hc16); (have KY16 := Aside0.mk hy16); (have KA16 := Aside0.mk hA16); (clear hy16 hA16); (replace q16 := eq_true q16); (refine start_ (n := 18) (S := fun w' => True) (ds := []) #[false, false, false, false, false, false, false, false, false, false, false, false, false, false, false, false, false, false] (by kernel_rfl) rfl rfl trivial (fun hHeld => ?_); refine with_tabW leaf_Make.tab9 leaf_Make.bits9 (fun HT_ HW_ => ?_)); (generalize wr.drew = w15 at HO_7 HB HR258 hHeld ⊢); (refine pu_ (i := 0) (N := some 26) (v := ?_) (a' := ?_) HT_.out rfl rfl (.inl ⟨by rfl, ?_⟩) ?_ ?_; rotate_left)
                        · intro w'; go_simp; with_reducible rfl
                        rotate_left
                        · simp only [pt_, pn_, sz_, ss_, i64_w, i32_w]; rfl
                        refine pu_ (i := 1) (N := some 27) (v := ?_) (a' := ?_) HT_.out rfl rfl (.inl ⟨by rfl, ?_⟩) ?_ ?_; rotate_left
                        · intro w'; go_simp; with_reducible rfl
                        rotate_left
                        · simp only [pt_, pn_, sz_, ss_, i64_w, i32_w]; rfl
                        refine pu_ (i := 2) (N := some 28) (v := ?_) (a' := ?_) HT_.out rfl rfl (.inl ⟨by rfl, ?_⟩) ?_ ?_; rotate_left
                        · intro w'; go_simp; with_reducible rfl
                        rotate_left
                        · simp only [pt_, pn_, sz_, ss_, i64_w, i32_w]; rfl
                        refine pu_ (i := 3) (N := some 29) (v := ?_) (a' := ?_) HT_.out rfl rfl (.inl ⟨by rfl, ?_⟩) ?_ ?_; rotate_left
                        · intro w'; go_simp; with_reducible rfl
                        rotate_left
                        · simp only [pt_, pn_, sz_, ss_, i64_w, i32_w]; rfl
                        refine pu_ (i := 4) (N := some 30) (v := ?_) (a' := ?_) HT_.out rfl rfl (.inl ⟨by rfl, ?_⟩) ?_ ?_; rotate_left
                        · intro w'; go_simp; with_reducible rfl
                        rotate_left
                        · simp only [pt_, pn_, sz_, ss_, i64_w, i32_w]; rfl
                        refine pu_ (i := 5) (N := some 31) (v := ?_) (a' := ?_) HT_.out rfl rfl (.inl ⟨by rfl, ?_⟩) ?_ ?_; rotate_left
                        · intro w'; go_simp; with_reducible rfl
                        rotate_left
                        · simp only [pt_, pn_, sz_, ss_, i64_w, i32_w]; rfl
                        refine pu_ (i := 6) (N := some 32) (v := ?_) (a' := ?_) HT_.out rfl rfl (.inl ⟨by rfl, ?_⟩) ?_ ?_; rotate_left
                        · intro w'; go_simp; with_reducible rfl
                        rotate_left
                        · simp only [pt_, pn_, sz_, ss_, i64_w, i32_w]; rfl
                        refine pu_ (i := 7) (N := some 33) (v := ?_) (a' := ?_) HT_.out rfl rfl (.inl ⟨by rfl, ?_⟩) ?_ ?_; rotate_left
                        · intro w'; go_simp; with_reducible rfl
                        rotate_left
                        · simp only [pt_, pn_, sz_, ss_, i64_w, i32_w]; rfl
                        refine pu_ (i := 8) (N := some 34) (v := ?_) (a' := ?_) HT_.out rfl rfl (.inl ⟨by rfl, ?_⟩) ?_ ?_; rotate_left
                        · intro w'; go_simp; with_reducible rfl
                        rotate_left
                        · simp only [pt_, pn_, sz_, ss_, i64_w, i32_w]; rfl
                        refine pu_ (i := 9) (N := some 35) (v := ?_) (a' := ?_) HT_.out rfl rfl (.inl ⟨by rfl, ?_⟩) ?_ ?_; rotate_left
                        · intro w'; go_simp; with_reducible rfl
                        rotate_left
                        · simp only [pt_, pn_, sz_, ss_, i64_w, i32_w]; rfl
                        refine pu_ (i := 10) (N := some 36) (v := ?_) (a' := ?_) HT_.out rfl rfl (.inl ⟨by rfl, ?_⟩) ?_ ?_; rotate_left
                        · intro w'; go_simp; with_reducible rfl
                        rotate_left
                        · simp only [pt_, pn_, sz_, ss_, i64_w, i32_w]; rfl
                        refine pu_ (i := 11) (N := some 37) (v := ?_) (a' := ?_) HT_.out rfl rfl (.inl ⟨by rfl, ?_⟩) ?_ ?_; rotate_left
                        · intro w'; go_simp; with_reducible rfl
                        rotate_left
                        · simp only [pt_, pn_, sz_, ss_, i64_w, i32_w]; rfl
                        refine pu_ (i := 12) (N := some 38) (v := ?_) (a' := ?_) HT_.out rfl rfl (.inl ⟨by rfl, ?_⟩) ?_ ?_; rotate_left
                        · intro w'; go_simp; with_reducible rfl
                        rotate_left
                        · simp only [pt_, pn_, sz_, ss_, i64_w, i32_w]; rfl
                        refine pu_ (i := 13) (N := some 39) (v := ?_) (a' := ?_) HT_.out rfl rfl (.inl ⟨by rfl, ?_⟩) ?_ ?_; rotate_left
                        · intro w'; go_simp; with_reducible rfl
                        rotate_left
                        · simp only [pt_, pn_, sz_, ss_, i64_w, i32_w]; rfl
                        (refine one_ (i := 14) (N := some 40) #[true, true, true, true, true, true, true, true, true, true, true, true, true, true, true, false, false, false] rfl rfl (one_of HT_.out (by kernel_rfl)) (by decide) (fun K hK => ?_)); (refine goes_ Try.func86 (by kernel_rfl) rfl #[.slice A16 y255.length c16] (by rfl) rfl rfl (by (try simp only [List.map_toArray, List.map_cons, List.map_nil]); first | done | rfl | (simp only [List.length_drop, List.length_take]; rfl)) ?_); (with_reducible refine (api_Entry_86.calls _ _ y255 t259 _ ?side1 ?side2 A13.out).mono ?_); ((case side1 => repeat (first | exact (Kd.C_below HR258.out HB.out) | (with_reducible refine Kd.C_alloc ?_ _) | (with_reducible refine Kd.C_drewN ?_ _) | (with_reducible refine Kd.C_drew ?_)))); ((case side2 => exact HC258.out)); (rintro e w17 ⟨v260, rfl, ho0, hb⟩); (refine ⟨_, rfl, ?_⟩); (have n0_ := Aside0.mk (Kd.R_elder' (by (with_reducible repeat (first | apply Kd.R_alloc | apply Kd.R_drewN | apply Kd.R_drew)); exact HO_7.out) (Kd.R_base ho0) hb)); (have n1_ := Aside0.mk (Kd.R_lower ho0 (below_size (by repeat (first | (with_reducible first | exact HB.out | apply y1_ | apply y2_ | apply y3_) | exact HB.out)))))
                        (have n2_ := Aside0.mk (below_step (by repeat (first | (with_reducible first | exact HB.out | apply y1_ | apply y2_ | apply y3_) | exact HB.out)) hb)); (clear HO_7 HB); (have HO_7 := n0_); (have HO261 := n1_); (have HB := n2_); (clear n0_ n1_ n2_); ((try clear hb)); ((try clear hb2)); ((try clear hk)); ((try clear hi)); ((try clear ho0)); (obtain ⟨Ao19, co19, eo19⟩ := Kd.R_slice HO261.out); ((first | subst eo19 | (injection eo19 with f1_ f2_ f3_; have f4_ := f1_.symm; have f5_ := f3_.symm; clear f1_ f2_ f3_; subst f4_; subst f5_))); (refine hK.out _ _ trivial (fun hHeld => ?_)); (clear hK K); (refine norm_ (a' := ?_) ?_ ?_)
                        rotate_left
                        · show Act.put _ (some 40) _ = _
                          (simp only [pt_, pn_, sz_, ss_, i64_w, i32_w]); (rfl)
                        (refine one_ (i := 15) (N := some 41) #[true, true, true, true, true, true, true, true, true, true, true, true, true, true, true, true, false, false] rfl rfl (one_of HT_.out (by kernel_rfl)) (by decide) (fun K hK => ?_)); (refine value_ (w1 := ?_) (v := ?_) (by rfl) rfl ?_ ?_)
                        rotate_left 2
                        · go_simp
                          constructor
                          · rfl
                          · rfl
                        (refine hK.out _ _ trivial (fun hHeld => ?_)); (clear hK K); (refine norm_ (a' := ?_) ?_ ?_)
                        rotate_left
                        · show Act.put _ (some 41) _ = _
                          (simp only [pt_, pn_, sz_, ss_, i64_w, i32_w]); (rfl)
                        (refine one_ (i := 16) (N := some 42) #[true, true, true, true, true, true, true, true, true, true, true, true, true, true, true, true, true, false] rfl rfl (one_of HT_.out (by kernel_rfl)) (by decide) (fun K hK => ?_)); (refine Kd.R_append_step (Kd.slice 85 k85) (w0 := w) w.heap.size (by rfl) (.tmp 26) (.tmp 41) 59 74 (.slice none 0 0) 24 rfl Try.underlying59 info74 rfl (by decide) (by omega) u7 x7_2 t259 [.slice Ao19 t259.length co19] (fun _ => True) (fun k_ => ((fun _ => True)) k_ ∧ some k_ ≠ (u7 : Value).ownBlock) rfl rfl ?aP (fun _ hk => hk) ?aF ?aO ?aB ?aS ?aL ?_); ((case aP => exact Kd.M_row (Kd.R_mono (Kd.R_apart' (HO261.out) (Kd.R_typed HO_7.out) (by decide)) (fun k_ hk => ⟨trivial, hk.2⟩)))); ((case aB => exact (by repeat (first | (with_reducible first | exact HB.out | apply y1_ | apply y2_ | apply y3_) | exact HB.out)))); ((case aF => exact (fun _ _ => trivial))); ((case aO => exact (by (with_reducible repeat (first | apply Kd.R_alloc | apply Kd.R_drewN | apply Kd.R_drew)); exact Kd.R_mono HO_7.out (fun _ hk => trivial)))); ((case aS => exact (below_size (by repeat (first | (with_reducible first | exact HB.out | apply y1_ | apply y2_ | apply y3_) | exact HB.out)))))
                        ((case aL => have := LMc14.out; omega)); (intro v263 w18 ho hb hg hat); (rw [← Ny262.out] at ho); (have n0_ := Aside0.mk (hb)); (have n1_ := Aside0.mk (ho)); (clear HB HO_7 HO261); (have HB := n0_); (have HO264 := n1_); (clear n0_ n1_ ho hb hg hat); (refine hK.out _ _ trivial (fun hHeld => ?_)); (clear hK K); (refine norm_ (a' := ?_) ?_ ?_)
                        rotate_left
                        · show Act.put _ (some 42) _ = _
                          (simp only [pt_, pn_, sz_, ss_, i64_w, i32_w]); (rfl)
                        refine pu_ (i := 17) (N := some 7) (v := ?_) (a' := ?_) HT_.out rfl rfl (.inl ⟨by rfl, ?_⟩) ?_ ?_; rotate_left
                        · intro w'; go_simp; with_reducible rfl
                        rotate_left
                        · simp only [pt_, pn_, sz_, ss_, i64_w, i32_w]; rfl
                        (refine done_ (done_of HT_.out (by kernel_rfl)) ?_); (try go_wp2); (go_roundg k2)
                        case measure => have := HJ4.out; have := HK2.out; omega
                        case rel => exact ⟨(y262), (wrap64 (x23_2 + 1)), (by first | rfl | (simp; done) | (simp [*]; done)), H', ⟨by have := HJ4.out; have := HK2.out; omega⟩, ⟨by (with_reducible repeat (first | apply Kd.R_alloc | apply Kd.R_drewN | apply Kd.R_drew)); exact HO264.out⟩, ⟨by repeat (first | (with_reducible first | exact HB.out | apply y1_ | apply y2_ | apply y3_) | exact HB.out)⟩⟩
                      · rw [if_neg c14] at H
                        exact absurd H (by simp)
                    · rw [if_neg c12] at H
                      exact absurd H (by simp)
                  · rw [if_neg c11] at H
                    exact absurd H (by simp)
                · rw [if_neg c10] at H
                  exact absurd H (by simp)
            · rw [if_neg c7] at H
              (have c7b0 : decide (x23_2 < x6_4) = false := decide_eq_false c7); (clear c7); (obtain rfl := Option.some.inj H); (go_wp2); (go_ret); (exact ⟨_, by first | rfl | (simp [errW_none, errW_some] <;> rfl) | (simp only [← hji3]; first | rfl | (simp [errW_none, errW_some] <;> rfl)) | (simp [*, errW_none, errW_some] <;> rfl), by (with_reducible repeat (first | apply Kd.R_alloc | apply Kd.R_drewN | apply Kd.R_drew)); exact HO_7.out, by repeat (first | (with_reducible first | exact HB.out | apply y1_ | apply y2_ | apply y3_) | exact HB.out)⟩)

end Go.Proofs.Ytpfikmchimlneaa.M1
