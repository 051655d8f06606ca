-- written by a program of this session (wip/myprint.py), over the kit's printer and the session's own contracts
import Derived.Test.YtpfikmchimlneaaM3x0
import Derived.Test.YtpfikmchimlneaaM3P0
namespace Go.Proofs.Ytpfikmchimlneaa.M3
open Go.RowKit Go.Proofs.YtpfikmchimlneaaW.PrintWords Go.Proofs.YtpfikmchimlneaaW.PrintLast Go.Proofs.YtpfikmchimlneaaW.PrintMore Go.Proofs.YtpfikmchimlneaaW.Mine
attribute [local go_sem] max2_int min2_int max_two min_two max_three min_three max_four min_four max2_str min2_str binOp_gtr_str binOp_leq_str binOp_geq_str   -- for this text's walks alone
set_option linter.unusedVariables false
set_option linter.unusedSimpArgs false

/-! ### block_Halves: function 96 -/
def block_Halves.f (l0 : List (S85)) : Option ((List (S85)) × (List (S85))) := if 0 ≤ (wrap64 ((l0.length : Int) / 2)) then (if (wrap64 ((l0.length : Int) / 2)) ≤ (l0.length : Int) then ((api_Entry_86.f (l0.take ((wrap64 ((l0.length : Int) / 2)) : Int).toNat)).bind fun t216 => ((api_Entry_86.f (l0.drop ((wrap64 ((l0.length : Int) / 2)) : Int).toNat)).bind fun t223 => (some (t216, t223)))) else (none)) else (none)
def block_Halves.T2 : Bool × List (List Nat × List Nat) := (true, [([], []), ([], []), ([0, 1], [0, 1]), ([2], [2]), ([], []), ([], []), ([4, 5], [4, 5]), ([6, 3], [6]), ([3, 7, 0, 1, 2, 3], [3]), ([7, 8, 0, 1, 2, 3, 4, 5, 6, 7, 8], [7])])
def block_Halves.B2 : List Nat := [0, 0, 3, 7, 0, 0, 48, 127, 255, 511]
theorem block_Halves.tab2 : rtab .any (opsOf Try.f96 2) = block_Halves.T2 := by kernel_rfl
theorem block_Halves.bits2 : waitsOk block_Halves.T2.2 block_Halves.B2 = true := by kernel_rfl
set_option maxHeartbeats 8000000 in
set_option maxRecDepth 100000 in
theorem block_Halves.calls (A0 : Option Addr) (c0 : Nat) (l0 : List (S85)) (r1 : List (S85)) (r2 : List (S85)) (w : World) (hr0 : Kd.C k85 w A0 l0.length l0) (hc0 : l0.length ≤ c0) (h : block_Halves.f l0 = some (r1, r2)) :
    Calls Try.prog 96 #[.slice A0 l0.length c0] w fun e w' => ∃ v0_ v1_ : Value, e = .returned (.tuple #[v0_, v1_]) ∧ Kd.R k85 85 w' w.heap.size (fun k_ => some k_ ≠ (v1_ : Value).ownBlock) v0_ r1 ∧ Kd.R k85 85 w' w.heap.size (fun k_ => some k_ ≠ (v0_ : Value).ownBlock) v1_ r2 ∧ Below w.heap.size w w' := by
  (have HR0 := Aside0.mk hr0); (have HC0 := Aside0.mk hc0); (clear hr0 hc0); (have HB := Aside0.mk (Below.refl w.heap.size w)); (have H : (if 0 ≤ (wrap64 ((l0.length : Int) / 2)) then (if (wrap64 ((l0.length : Int) / 2)) ≤ (l0.length : Int) then ((api_Entry_86.f (l0.take ((wrap64 ((l0.length : Int) / 2)) : Int).toNat)).bind fun t216 => ((api_Entry_86.f (l0.drop ((wrap64 ((l0.length : Int) / 2)) : Int).toNat)).bind fun t223 => (some (t216, t223)))) else (none)) else (none)) = some (r1, r2) := h); (clear h); (obtain ⟨ji2, hji2⟩ : ∃ j_ : Int, (wrap64 ((l0.length : Int) / 2)) = j_ := ⟨_, rfl⟩); (replace H : (if 0 ≤ (ji2) then (if (ji2) ≤ (l0.length : Int) then ((api_Entry_86.f (l0.take ((ji2) : Int).toNat)).bind fun t216 => ((api_Entry_86.f (l0.drop ((ji2) : Int).toNat)).bind fun t223 => (some (t216, t223)))) else (none)) else (none)) = some (r1, r2) := by first | (rw [hji2] at H; exact H) | (simp only [hji2] at H ⊢; exact H)); (have hji2w : (IntKind.i64.wrap ((l0.length : Int) / 2)) = ji2 := (i64_w _).trans hji2); (by_cases c3 : 0 ≤ (ji2))
  · rw [if_pos c3] at H
    (have c3b0 := eq_true c3); (have c3b1 : decide (0 ≤ (ji2)) = true := decide_eq_true c3); (clear c3); (by_cases c4 : (ji2) ≤ (l0.length : Int))
    · rw [if_pos c4] at H
      (have c4b0 := eq_true c4); (have c4b1 : decide ((ji2) ≤ (l0.length : Int)) = true := decide_eq_true c4); (clear c4); (obtain ⟨y212, hy212⟩ : ∃ y_ : List (S85), y_ = (l0.take ((ji2) : Int).toNat) := ⟨_, rfl⟩); (replace H : ((api_Entry_86.f y212).bind fun t216 => ((api_Entry_86.f (l0.drop ((ji2) : Int).toNat)).bind fun t223 => (some (t216, t223)))) = some (r1, r2) := by first | (rw [hy212]; with_reducible exact H) | (have H2_ := (Option.bind_some _ _).symm.trans H; rw [hy212]; with_reducible exact H2_) | (have H2_ := (Option.bind_some _ _).symm.trans H; with_reducible exact H2_) | with_reducible exact H | (rw [hy212]; exact H) | exact H); (have Ny212 := Aside0.mk hy212); (clear hy212); (replace H := Option.bind_eq_some_iff.mp H); (obtain ⟨t216, A50, H⟩ := H); (replace H : ((api_Entry_86.f (l0.drop ((ji2) : Int).toNat)).bind fun t223 => (some (t216, t223))) = some (r1, r2) := H); (have A5 := Aside0.mk A50); (clear A50); (have c6b0 := eq_true (of_decide_eq_true (by first | (with_reducible assumption) | assumption) : 0 ≤ (ji2))); (have c7b0 := eq_true (of_decide_eq_true (by first | (with_reducible assumption) | assumption) : (ji2) ≤ (l0.length : Int)))
      (obtain ⟨y219, hy219⟩ : ∃ y_ : List (S85), y_ = (l0.drop ((ji2) : Int).toNat) := ⟨_, rfl⟩); (replace H : ((api_Entry_86.f y219).bind fun t223 => (some (t216, t223))) = some (r1, r2) := by first | (rw [hy219]; with_reducible exact H) | (have H2_ := (Option.bind_some _ _).symm.trans H; rw [hy219]; with_reducible exact H2_) | (have H2_ := (Option.bind_some _ _).symm.trans H; with_reducible exact H2_) | with_reducible exact H | (rw [hy219]; exact H) | exact H); (have Ny219 := Aside0.mk hy219); (clear hy219); (replace H := Option.bind_eq_some_iff.mp H); (obtain ⟨t223, A80, H⟩ := H); (replace H : (some (t216, t223)) = some (r1, r2) := H); (have A8 := Aside0.mk A80); (clear A80); (simp only [Option.some.injEq, Prod.mk.injEq] at H); (obtain ⟨rfl, rfl⟩ := H); (go_enter Try.func96, Try.ntmps96); (try go_wp2); (have n0_ := Aside0.mk (below_drew1 HB.out)); (clear HB); (have HB := n0_); (clear n0_); (have q10 : ((ji2) : Int) ≤ ((l0.length : Int) : Int) := of_decide_eq_true (by first | (with_reducible assumption) | assumption)); (obtain ⟨i010, hi010, _, hsz10, _⟩ := info_parts info85); (have hroom10 : l0.length ≤ c0 := HC0.out); (have hC10 : Kd.C k85 _ A0 l0.length l0 := HR0.out)
      (have hcut10 := cut_to (P := Try.prog) 74 85 .i64 Try.underlying74 hi010 A0 l0.length c0 (ji2) (of_decide_eq_true (by first | (with_reducible assumption) | assumption)) q10 hroom10); (have hr10 := Kd.C_take (m := ((ji2) : Int).toNat) hC10 (by omega)); (have hy10 : y212.length = ((ji2) : Int).toNat := (by rw [Ny212.out, List.length_take]; omega)); (rw [← Ny212.out] at hr10); (rw [← hy10] at hcut10); (have HR215 := Aside0.mk hr10); (have HC215 := Aside0.mk (show y212.length ≤ c0 from by omega)); (clear hr10 hC10 hroom10 hi010 hsz10); (have KY10 := Aside0.mk hy10); (clear hy10); (replace q10 := eq_true q10); (have q11 : ((ji2) : Int) ≤ ((l0.length : Int) : Int) := of_decide_eq_true (by first | (with_reducible assumption) | assumption)); (obtain ⟨i011, hi011, _, hsz11, _⟩ := info_parts info85); (have hroom11 : l0.length ≤ c0 := HC0.out); (have hC11 : Kd.C k85 _ A0 l0.length l0 := HR0.out); (have q011 : (0 : Int) ≤ ((ji2) : Int) := of_decide_eq_true (by first | (with_reducible assumption) | assumption)); (have hcut11 := cut_from (P := Try.prog) 74 85 .i64 Try.underlying74 hi011 2 hsz11 A0 l0.length c0 (ji2) q011 q11)
      (have hr11 := Kd.C_drop (m := ((ji2) : Int).toNat) (c := c0) hC11 (by omega) hroom11); (obtain ⟨A11, hA11⟩ : ∃ A1, A1 = (if c0 = ((ji2) : Int).toNat then A0 else (A0 : Option Addr).map (·.add (((ji2) : Int).toNat * 2))) := ⟨_, rfl⟩); (obtain ⟨c11, hc11⟩ : ∃ c1, c1 = c0 - ((ji2) : Int).toNat := ⟨_, rfl⟩); (have hy11 : y219.length = l0.length - ((ji2) : Int).toNat := (by rw [Ny219.out, List.length_drop] <;> omega)); (rw [show (l0).drop ((ji2) : Int).toNat = y219 from Ny219.out.symm] at hr11); (replace hr11 : Kd.C k85 _ A11 y219.length y219 := (by rw [hA11]; exact hr11)); (rw [← hy11, ← hA11, ← hc11] at hcut11); (have HR222 := Aside0.mk hr11); (have HC222 := Aside0.mk (show y219.length ≤ c11 from by rw [hy11, hc11]; exact Nat.sub_le_sub_right hroom11 _)); (clear hr11 hC11 hroom11 hi011 hsz11 hc11); (have KY11 := Aside0.mk hy11); (have KA11 := Aside0.mk hA11); (clear hy11 hA11); (replace q11 := eq_true q11); (refine start_ (n := 10) (S := fun w' => True) (ds := []) #[false, false, false, false, false, false, false, false, false, false] (by kernel_rfl) rfl rfl trivial (fun hHeld => ?_); refine with_tabW block_Halves.tab2 block_Halves.bits2 (fun HT_ HW_ => ?_))
      (generalize w.drew = w9 at HB HR215 HR222 hHeld ⊢); (refine pu_ (i := 0) (N := some 8) (v := ?_) (a' := ?_) HT_.out rfl rfl (.inl ⟨by rfl, ?_⟩) ?_ ?_; rotate_left)
      · intro w'; go_simp; with_reducible rfl
      rotate_left
      · simp only [pt_, pn_, sz_, ss_, i64_w, i32_w]; rfl
      refine pu_ (i := 1) (N := some 9) (v := ?_) (a' := ?_) HT_.out rfl rfl (.inl ⟨by rfl, ?_⟩) ?_ ?_; rotate_left
      · intro w'; go_simp; with_reducible rfl
      rotate_left
      · simp only [pt_, pn_, sz_, ss_, i64_w, i32_w]; rfl
      refine pu_ (i := 2) (N := some 10) (v := ?_) (a' := ?_) HT_.out rfl rfl (.inl ⟨by rfl, ?_⟩) ?_ ?_; rotate_left
      · intro w'; go_simp; with_reducible rfl
      rotate_left
      · simp only [pt_, pn_, sz_, ss_, i64_w, i32_w]; rfl
      refine pu_ (i := 4) (N := some 12) (v := ?_) (a' := ?_) HT_.out rfl rfl (.inl ⟨by rfl, ?_⟩) ?_ ?_; rotate_left
      · intro w'; go_simp; with_reducible rfl
      rotate_left
      · simp only [pt_, pn_, sz_, ss_, i64_w, i32_w]; rfl
      refine pu_ (i := 5) (N := some 13) (v := ?_) (a' := ?_) HT_.out rfl rfl (.inl ⟨by rfl, ?_⟩) ?_ ?_; rotate_left
      · intro w'; go_simp; with_reducible rfl
      rotate_left
      · simp only [pt_, pn_, sz_, ss_, i64_w, i32_w]; rfl
      refine pu_ (i := 6) (N := some 14) (v := ?_) (a' := ?_) HT_.out rfl rfl (.inl ⟨by rfl, ?_⟩) ?_ ?_; rotate_left
      · intro w'; go_simp; with_reducible rfl
      rotate_left
      · simp only [pt_, pn_, sz_, ss_, i64_w, i32_w]; rfl
      (refine one_ (i := 3) (N := some 11) #[true, true, true, true, true, true, true, false, false, false] rfl rfl (one_of HT_.out (by kernel_rfl)) (by decide) (fun K hK => ?_)); (refine goes_ Try.func86 (by kernel_rfl) rfl #[.slice A0 y212.length c0] (by rfl) rfl rfl (by (try simp only [List.map_toArray, List.map_cons, List.map_nil]); first | done | rfl | (simp only [List.length_drop, List.length_take]; rfl)) ?_); (with_reducible refine (api_Entry_86.calls _ _ y212 t216 _ ?side1 ?side2 A5.out).mono ?_); ((case side1 => repeat (first | exact (Kd.C_below HR215.out HB.out) | (with_reducible refine Kd.C_alloc ?_ _) | (with_reducible refine Kd.C_drewN ?_ _) | (with_reducible refine Kd.C_drew ?_)))); ((case side2 => exact HC215.out)); (rintro e w12 ⟨v217, rfl, ho0, hb⟩); (refine ⟨_, rfl, ?_⟩); (have n0_ := Aside0.mk (Kd.R_lower ho0 (below_size (by repeat (first | (with_reducible first | exact HB.out | apply y1_ | apply y2_ | apply y3_) | exact HB.out))))); (have n1_ := Aside0.mk (below_step (by repeat (first | (with_reducible first | exact HB.out | apply y1_ | apply y2_ | apply y3_) | exact HB.out)) hb)); (clear HB); (have HO218 := n0_); (have HB := n1_); (clear n0_ n1_); ((try clear hb))
      ((try clear hb2)); ((try clear hk)); ((try clear hi)); ((try clear ho0)); (refine hK.out _ _ trivial (fun hHeld => ?_)); (clear hK K); (refine norm_ (a' := ?_) ?_ ?_)
      rotate_left
      · show Act.put _ (some 11) _ = _
        (simp only [pt_, pn_, sz_, ss_, i64_w, i32_w]); (rfl)
      (refine one_ (i := 7) (N := some 15) #[true, true, true, true, true, true, true, true, false, false] rfl rfl (one_of HT_.out (by kernel_rfl)) (by decide) (fun K hK => ?_)); (refine goes_ Try.func86 (by kernel_rfl) rfl #[.slice A11 y219.length c11] (by rfl) rfl rfl (by (try simp only [List.map_toArray, List.map_cons, List.map_nil]); first | done | rfl | (simp only [List.length_drop, List.length_take]; rfl)) ?_); (with_reducible refine (api_Entry_86.calls _ _ y219 t223 _ ?side1 ?side2 A8.out).mono ?_); ((case side1 => repeat (first | exact (Kd.C_below HR222.out HB.out) | (with_reducible refine Kd.C_alloc ?_ _) | (with_reducible refine Kd.C_drewN ?_ _) | (with_reducible refine Kd.C_drew ?_)))); ((case side2 => exact HC222.out)); (rintro e w13 ⟨v224, rfl, ho0, hb⟩); (refine ⟨_, rfl, ?_⟩); (have n0_ := Aside0.mk (Kd.R_elder' (by (with_reducible repeat (first | apply Kd.R_alloc | apply Kd.R_drewN | apply Kd.R_drew)); exact HO218.out) (Kd.R_base ho0) hb))
      (have n1_ := Aside0.mk (Kd.R_lower (Kd.R_new' ho0 (Kd.R_lt (by (with_reducible repeat (first | apply Kd.R_alloc | apply Kd.R_drewN | apply Kd.R_drew)); exact HO218.out))) (below_size (by repeat (first | (with_reducible first | exact HB.out | apply y1_ | apply y2_ | apply y3_) | exact HB.out))))); (have n2_ := Aside0.mk (below_step (by repeat (first | (with_reducible first | exact HB.out | apply y1_ | apply y2_ | apply y3_) | exact HB.out)) hb)); (clear HO218 HB); (have HO218 := n0_); (have HO225 := n1_); (have HB := n2_); (clear n0_ n1_ n2_); ((try clear hb)); ((try clear hb2)); ((try clear hk)); ((try clear hi)); ((try clear ho0)); (refine hK.out _ _ trivial (fun hHeld => ?_)); (clear hK K); (refine norm_ (a' := ?_) ?_ ?_)
      rotate_left
      · show Act.put _ (some 15) _ = _
        (simp only [pt_, pn_, sz_, ss_, i64_w, i32_w]); (rfl)
      refine pu_ (i := 8) (N := some 2) (v := ?_) (a' := ?_) HT_.out rfl rfl (.inl ⟨by rfl, ?_⟩) ?_ ?_; rotate_left
      · intro w'; go_simp; with_reducible rfl
      rotate_left
      · simp only [pt_, pn_, sz_, ss_, i64_w, i32_w]; rfl
      refine pu_ (i := 9) (N := some 3) (v := ?_) (a' := ?_) HT_.out rfl rfl (.inl ⟨by rfl, ?_⟩) ?_ ?_; rotate_left
      · intro w'; go_simp; with_reducible rfl
      rotate_left
      · simp only [pt_, pn_, sz_, ss_, i64_w, i32_w]; rfl
      (refine done_ (done_of HT_.out (by kernel_rfl)) ?_); (try go_wp2); (go_ret2); (exact ⟨_, _, by first | rfl | (simp [errW_none, errW_some] <;> rfl) | (simp only [← hji2]; first | rfl | (simp [errW_none, errW_some] <;> rfl)) | (simp [*, errW_none, errW_some] <;> rfl), by (with_reducible repeat (first | apply Kd.R_alloc | apply Kd.R_drewN | apply Kd.R_drew)); exact Kd.R_mono HO218.out (fun _ hk => hk.2), by (with_reducible repeat (first | apply Kd.R_alloc | apply Kd.R_drewN | apply Kd.R_drew)); exact Kd.R_mono HO225.out (fun _ hk => hk.2), by repeat (first | (with_reducible first | exact HB.out | apply y1_ | apply y2_ | apply y3_) | exact HB.out)⟩)
    · rw [if_neg c4] at H
      exact absurd H (by simp)
  · rw [if_neg c3] at H
    exact absurd H (by simp)

end Go.Proofs.Ytpfikmchimlneaa.M3
