-- written by a program of this session (wip/myprint.py), over the kit's printer and the session's own contracts
import Derived.Test.YtnklnjghecmihaaH6x0
import Derived.Test.YtnklnjghecmihaaH6x11
import Derived.Test.YtnklnjghecmihaaH6x20
import Derived.Test.YtnklnjghecmihaaH6x21
import Derived.Test.YtnklnjghecmihaaH6x29
import Derived.Test.YtnklnjghecmihaaH6P0
import Derived.Test.YtnklnjghecmihaaH6x38
namespace Go.Proofs.Ytnklnjghecmihaa.H6
open Go.RowKit Go.Proofs.YtnklnjghecmihaaW.PrintWords Go.Proofs.YtnklnjghecmihaaW.PrintLast Go.Proofs.YtnklnjghecmihaaW.PrintMore Go.Proofs.YtnklnjghecmihaaW.Mine
attribute [local go_sem] max2_int min2_int max_two min_two max_three min_three max_four min_four max2_str min2_str binOp_gtr_str binOp_leq_str binOp_geq_str   -- for this text's walks alone
set_option linter.unusedVariables false
set_option linter.unusedSimpArgs false

/-! ### catchmentlaw10_BlockBack: function 4 -/
mutual
def catchmentlaw10_BlockBack.j0 : Nat → List (S25) → Bool → Option (Bool)
  | 0, _, _ => none
  | k + 1, x0, x28 => if x28 = true then (none) else ((catchmentref05_Rises.f k x0).bind fun t237 => (if t237 = true then (catchmentlaw10_BlockBack.l0 k x0 0) else ((catchmentlaw10_live.f k).bind fun t238 => (if t238 = true then ((block_Pack.f k x0).bind fun t239 => (some (t239.toList == ([] : List UInt8)))) else (none)))))
def catchmentlaw10_BlockBack.l0 : Nat → List (S25) → Int → Option (Bool)
  | 0, _, _ => none
  | k + 1, x0, x7 => if x7 < (x0.length : Int) then (if 0 ≤ x7 then (if (((rd_T25 x0 x7).f0).size : Int) > 256 then ((catchmentlaw10_live.f k).bind fun t242 => (some t242)) else (if (((rd_T25 x0 x7).f1).size : Int) > 4096 then ((catchmentlaw10_live.f k).bind fun t243 => (some t243)) else (catchmentlaw10_BlockBack.l0 k x0 (wrap64 (x7 + 1))))) else (none)) else ((block_Pack.f k x0).bind fun t244 => ((block_Unpack.f k t244).bind fun bt245 => ((catchmentlaw10_live.f k).bind fun t249 => (if t249 = true then (if bt245.2 = 0 then ((catchmentref05_Same.f k bt245.1 x0).bind fun t250 => (some t250)) else (none)) else (none)))))
end
def catchmentlaw10_BlockBack.f (k : Nat) (l0 : List (S25)) (a1 : ByteArray) : Option (Bool) := if 0 ≤ (mn (l0.length : Int) 40) then (if (mn (l0.length : Int) 40) ≤ (l0.length : Int) then ((some (l0.take ((mn (l0.length : Int) 40) : Int).toNat : List (S25))).bind fun y227 => (if (a1.size : Int) > 4000 then ((catchmentlaw10_live.f k).bind fun t231 => (some t231)) else ((block_Unpack.f k a1).bind fun bt232 => (if bt232.2 = 0 then ((block_Pack.f k bt232.1).bind fun t236 => (catchmentlaw10_BlockBack.j0 k y227 (t236.toList != a1.toList))) else (catchmentlaw10_BlockBack.j0 k y227 false))))) else (none)) else (none)
theorem catchmentlaw10_BlockBack.mono_l : ∀ k, (∀ y0 y1, LeO (catchmentlaw10_BlockBack.j0 k y0 y1) (catchmentlaw10_BlockBack.j0 (k + 1) y0 y1)) ∧ (∀ y0 y1, LeO (catchmentlaw10_BlockBack.l0 k y0 y1) (catchmentlaw10_BlockBack.l0 (k + 1) y0 y1))
  | 0 => ⟨fun _ _ r h => by simp [catchmentlaw10_BlockBack.j0] at h, fun _ _ r h => by simp [catchmentlaw10_BlockBack.l0] at h⟩
  | k + 1 => by
    obtain ⟨ih0, ih1⟩ := catchmentlaw10_BlockBack.mono_l k
    refine ⟨?_, ?_⟩
    · intro y0 y1
      unfold catchmentlaw10_BlockBack.j0
      repeat' first
      | (with_reducible exact ih0 _ _)
      | (with_reducible exact ih1 _ _)
      | (with_reducible exact block_Pack.mono _ _)
      | (with_reducible exact block_Unpack.mono _ _)
      | (with_reducible exact catchmentlaw10_live.mono _)
      | (with_reducible exact catchmentref05_Rises.mono _ _)
      | (with_reducible exact catchmentref05_Same.mono _ _ _)
      | (with_reducible exact LeO.refl _)
      | (with_reducible exact LeO.none _)
      | (with_reducible refine LeO.ite ?_ ?_)
      | (with_reducible refine LeO.bind ?_ (fun _ => ?_))
      | exact ih0 _ _
      | exact ih1 _ _
      | exact block_Pack.mono _ _
      | exact block_Unpack.mono _ _
      | exact catchmentlaw10_live.mono _
      | exact catchmentref05_Rises.mono _ _
      | exact catchmentref05_Same.mono _ _ _
      | exact LeO.none _
      | refine LeO.ite ?_ ?_
      | refine LeO.bind ?_ (fun _ => ?_)
    · intro y0 y1
      unfold catchmentlaw10_BlockBack.l0
      repeat' first
      | (with_reducible exact ih0 _ _)
      | (with_reducible exact ih1 _ _)
      | (with_reducible exact block_Pack.mono _ _)
      | (with_reducible exact block_Unpack.mono _ _)
      | (with_reducible exact catchmentlaw10_live.mono _)
      | (with_reducible exact catchmentref05_Rises.mono _ _)
      | (with_reducible exact catchmentref05_Same.mono _ _ _)
      | (with_reducible exact LeO.refl _)
      | (with_reducible exact LeO.none _)
      | (with_reducible refine LeO.ite ?_ ?_)
      | (with_reducible refine LeO.bind ?_ (fun _ => ?_))
      | exact ih0 _ _
      | exact ih1 _ _
      | exact block_Pack.mono _ _
      | exact block_Unpack.mono _ _
      | exact catchmentlaw10_live.mono _
      | exact catchmentref05_Rises.mono _ _
      | exact catchmentref05_Same.mono _ _ _
      | exact LeO.none _
      | refine LeO.ite ?_ ?_
      | refine LeO.bind ?_ (fun _ => ?_)
theorem catchmentlaw10_BlockBack.mono : ∀ a0 a1 k, LeO (catchmentlaw10_BlockBack.f k a0 a1) (catchmentlaw10_BlockBack.f (k + 1) a0 a1) := by
  intro a0 a1 k
  obtain ⟨ih0, ih1⟩ := catchmentlaw10_BlockBack.mono_l k
  unfold catchmentlaw10_BlockBack.f
  repeat' first
      | (with_reducible exact ih0 _ _)
      | (with_reducible exact ih1 _ _)
      | (with_reducible exact block_Pack.mono _ _)
      | (with_reducible exact block_Unpack.mono _ _)
      | (with_reducible exact catchmentlaw10_live.mono _)
      | (with_reducible exact catchmentref05_Rises.mono _ _)
      | (with_reducible exact catchmentref05_Same.mono _ _ _)
      | (with_reducible exact LeO.refl _)
      | (with_reducible exact LeO.none _)
      | (with_reducible refine LeO.ite ?_ ?_)
      | (with_reducible refine LeO.bind ?_ (fun _ => ?_))
      | exact ih0 _ _
      | exact ih1 _ _
      | exact block_Pack.mono _ _
      | exact block_Unpack.mono _ _
      | exact catchmentlaw10_live.mono _
      | exact catchmentref05_Rises.mono _ _
      | exact catchmentref05_Same.mono _ _ _
      | exact LeO.none _
      | refine LeO.ite ?_ ?_
      | refine LeO.bind ?_ (fun _ => ?_)
set_option maxRecDepth 100000 in
set_option maxHeartbeats 4000000 in
theorem catchmentlaw10_BlockBack_few_read (A0 : Option Addr) (c0 : Nat) (l0 : List (S25)) (hl : l0.length ≤ c0) (w : World) : Calls Try.prog 15 #[.slice A0 l0.length c0] w fun e w' => e = .returned (.slice A0 (l0.take (mn (l0.length : Int) 40).toNat).length c0) ∧ w' = w := by
  obtain ⟨j, hj⟩ : ∃ j, mn (l0.length : Int) 40 = j := ⟨_, rfl⟩
  have h1 : 0 ≤ j := by rw [← hj]; unfold mn; split <;> omega
  have h2 : j ≤ (l0.length : Int) := by rw [← hj]; unfold mn; split <;> omega
  rw [hj]
  have hj_ : (if 40 < (l0.length : Int) then 40 else (l0.length : Int)) = j := hj
  have hjn : (if 40 < l0.length then (40 : Int) else (l0.length : Int)) = j := by rw [← hj]; unfold mn; (repeat' split) <;> omega
  obtain ⟨i06, hi06, _, hsz6, _⟩ := info_parts info25
  have hcut6 := cut_to (P := Try.prog) 22 25 .i64 Try.underlying22 hi06 A0 l0.length c0 j h1 h2 hl
  clear hi06 hsz6 hj
  have hl2 : (l0.take j.toNat).length = j.toNat := by rw [List.length_take]; omega
  go_enter Try.func15, Try.ntmps15
  go_wp2
  all_goals (go_ret; refine ⟨?_, rfl⟩; rw [hl2]; rfl)
set_option maxHeartbeats 8000000 in
set_option maxRecDepth 100000 in
theorem catchmentlaw10_BlockBack.calls (k : Nat) (A0 : Option Addr) (c0 : Nat) (l0 : List (S25)) (a1 : ByteArray) (r : Bool) (w : World) (hr0 : Kd.C k25 w A0 l0.length l0) (hc0 : l0.length ≤ c0) (h : catchmentlaw10_BlockBack.f k l0 a1 = some r) :
    Calls Try.prog 4 #[.slice A0 l0.length c0, .string a1] w fun e w' => e = .returned (.bool r) ∧ Below w.heap.size w w' := by
  have HR0 := Aside0.mk hr0
  have HC0 := Aside0.mk hc0
  clear hr0 hc0
  have HB := Aside0.mk (Below.refl w.heap.size w)
  have H : (if 0 ≤ (mn (l0.length : Int) 40) then (if (mn (l0.length : Int) 40) ≤ (l0.length : Int) then ((some (l0.take ((mn (l0.length : Int) 40) : Int).toNat : List (S25))).bind fun y227 => (if (a1.size : Int) > 4000 then ((catchmentlaw10_live.f k).bind fun t231 => (some t231)) else ((block_Unpack.f k a1).bind fun bt232 => (if bt232.2 = 0 then ((block_Pack.f k bt232.1).bind fun t236 => (catchmentlaw10_BlockBack.j0 k y227 (t236.toList != a1.toList))) else (catchmentlaw10_BlockBack.j0 k y227 false))))) else (none)) else (none)) = some r := h
  clear h
  obtain ⟨ji3, hji3⟩ : ∃ j_ : Int, (mn (l0.length : Int) 40) = j_ := ⟨_, rfl⟩
  replace H : (if 0 ≤ (ji3) then (if (ji3) ≤ (l0.length : Int) then ((some (l0.take ((ji3) : Int).toNat : List (S25))).bind fun y227 => (if (a1.size : Int) > 4000 then ((catchmentlaw10_live.f k).bind fun t231 => (some t231)) else ((block_Unpack.f k a1).bind fun bt232 => (if bt232.2 = 0 then ((block_Pack.f k bt232.1).bind fun t236 => (catchmentlaw10_BlockBack.j0 k y227 (t236.toList != a1.toList))) else (catchmentlaw10_BlockBack.j0 k y227 false))))) else (none)) else (none)) = some r := by first | (rw [hji3] at H; exact H) | (simp only [hji3] at H ⊢; exact H)
  (try (have hji3h : ji3 ≤ 40 := by (rw [← hji3]; unfold mn; (repeat' split) <;> omega)))
  (try (have hji3g : ji3 ≤ 64 := by omega))
  (try (have hji3l : 0 ≤ ji3 := by (rw [← hji3]; unfold mn; (repeat' split) <;> omega)))
  (try (have hji3m : 0 ≤ ji3 := by omega))
  have hji3_ : (if 40 < (l0.length : Int) then 40 else (l0.length : Int)) = ji3 := hji3
  (try (have hji3n : (if 40 < l0.length then (40 : Int) else (l0.length : Int)) = ji3 := by (rw [← hji3]; unfold mn; (repeat' split) <;> omega)))
  by_cases c4 : 0 ≤ (ji3)
  · rw [if_pos c4] at H
    have c4b0 := eq_true c4
    have c4b1 : decide (0 ≤ (ji3)) = true := decide_eq_true c4
    clear c4
    by_cases c5 : (ji3) ≤ (l0.length : Int)
    · rw [if_pos c5] at H
      have c5b0 := eq_true c5
      have c5b1 : decide ((ji3) ≤ (l0.length : Int)) = true := decide_eq_true c5
      clear c5
      obtain ⟨y227, hy227⟩ : ∃ y_ : List (S25), y_ = (l0.take ((ji3) : Int).toNat) := ⟨_, rfl⟩
      replace H : (if (a1.size : Int) > 4000 then ((catchmentlaw10_live.f k).bind fun t231 => (some t231)) else ((block_Unpack.f k a1).bind fun bt232 => (if bt232.2 = 0 then ((block_Pack.f k bt232.1).bind fun t236 => (catchmentlaw10_BlockBack.j0 k y227 (t236.toList != a1.toList))) else (catchmentlaw10_BlockBack.j0 k y227 false)))) = some r := by first | (rw [hy227]; with_reducible exact H) | (have H2_ := (Option.bind_some _ _).symm.trans H; rw [hy227]; with_reducible exact H2_) | (have H2_ := (Option.bind_some _ _).symm.trans H; with_reducible exact H2_) | with_reducible exact H | (rw [hy227]; exact H) | exact H
      have Ny227 := Aside0.mk hy227
      clear hy227
      by_cases c6 : (a1.size : Int) > 4000
      · rw [if_pos c6] at H
        have c6b0 : decide (4000 < (a1.size : Int)) = true := decide_eq_true c6
        have c6b1 : decide (4000 < a1.size) = true := decide_eq_true (by omega)
        clear c6
        replace H := Option.bind_eq_some_iff.mp H
        obtain ⟨t231, A70, H⟩ := H
        replace H : (some t231) = some r := H
        have A7 := Aside0.mk A70
        clear A70
        obtain rfl := Option.some.inj H
        have q8 : ((ji3) : Int) ≤ ((l0.length : Int) : Int) := of_decide_eq_true (by first | (with_reducible assumption) | assumption)
        obtain ⟨i08, hi08, _, hsz8, _⟩ := info_parts info25
        have hroom8 : l0.length ≤ c0 := HC0.out
        have hC8 : Kd.C k25 _ A0 l0.length l0 := HR0.out
        have hcut8 := cut_to (P := Try.prog) 22 25 .i64 Try.underlying22 hi08 A0 l0.length c0 (ji3) (of_decide_eq_true (by first | (with_reducible assumption) | assumption)) q8 hroom8
        have hr8 := Kd.C_take (m := ((ji3) : Int).toNat) hC8 (by omega)
        have hy8 : y227.length = ((ji3) : Int).toNat := (by rw [Ny227.out, List.length_take]; omega)
        rw [← Ny227.out] at hr8
        rw [← hy8] at hcut8
        have HR230 := Aside0.mk hr8
        have HC230 := Aside0.mk (show y227.length ≤ c0 from by omega)
        clear hr8 hC8 hroom8 hi08 hsz8
        have KY8 := Aside0.mk hy8
        clear hy8
        replace q8 := eq_true q8
        have HFEW := Aside0.mk (show ∀ W : World, Calls Try.prog 15 #[.slice A0 l0.length c0] W (fun e w' => e = .returned (.slice A0 y227.length c0) ∧ W = w') from fun W => by have h_ := catchmentlaw10_BlockBack_few_read A0 c0 l0 HC0.out W; rw [hji3, ← Ny227.out] at h_; exact h_.mono fun _ _ h => ⟨h.1, h.2.symm⟩)
        go_enter Try.func4, Try.ntmps4
        go_wp2_with (first | (go_at_call 15; refine (HFEW.out _).mono ?_; rintro e w_ ⟨rfl, rfl⟩) | ((with_reducible refine gate_callee (f := 16) rfl ?_); refine goesL_ (some 15) rfl rfl Try.func16 (by kernel_rfl) rfl #[] rfl (by (try simp only [List.map_toArray, List.map_cons, List.map_nil]); first | done | rfl | (simp only [List.length_drop, List.length_take]; rfl)) ?_; (with_reducible refine (catchmentlaw10_live.calls k  t231 _ A7.out).mono ?_); rintro e w9 ⟨rfl, hb⟩; refine ⟨_, rfl, ?_⟩; have n0_ := Aside0.mk (below_step (by repeat (first | (with_reducible first | exact HB.out | apply below_alloc | apply pw_below_drewN | apply below_drew1) | exact HB.out)) hb); clear HB; have HB := n0_; clear n0_; (try clear hb); (try clear hb2); (try clear hk); (try clear hi)))
        go_ret
        exact ⟨by first | rfl | (simp [errW_none, errW_some] <;> rfl) | (simp only [← hji3]; first | rfl | (simp [errW_none, errW_some] <;> rfl)) | (simp [*, errW_none, errW_some] <;> rfl), by repeat (first | (with_reducible first | exact HB.out | apply below_alloc | apply pw_below_drewN | apply below_drew1) | exact HB.out)⟩
      · rw [if_neg c6] at H
        have c6b0 : decide (4000 < (a1.size : Int)) = false := decide_eq_false c6
        have c6b1 : decide (4000 < a1.size) = false := decide_eq_false (by omega)
        clear c6
        replace H := Option.bind_eq_some_iff.mp H
        obtain ⟨⟨t232, t233⟩, A100, H⟩ := H
        replace H : (if t233 = 0 then ((block_Pack.f k t232).bind fun t236 => (catchmentlaw10_BlockBack.j0 k y227 (t236.toList != a1.toList))) else (catchmentlaw10_BlockBack.j0 k y227 false)) = some r := H
        have A10 := Aside0.mk A100
        clear A100
        have HC11 := Aside0.mk H
        clear H
        have q12 : ((ji3) : Int) ≤ ((l0.length : Int) : Int) := of_decide_eq_true (by first | (with_reducible assumption) | assumption)
        obtain ⟨i012, hi012, _, hsz12, _⟩ := info_parts info25
        have hroom12 : l0.length ≤ c0 := HC0.out
        have hC12 : Kd.C k25 _ A0 l0.length l0 := HR0.out
        have hcut12 := cut_to (P := Try.prog) 22 25 .i64 Try.underlying22 hi012 A0 l0.length c0 (ji3) (of_decide_eq_true (by first | (with_reducible assumption) | assumption)) q12 hroom12
        have hr12 := Kd.C_take (m := ((ji3) : Int).toNat) hC12 (by omega)
        have hy12 : y227.length = ((ji3) : Int).toNat := (by rw [Ny227.out, List.length_take]; omega)
        rw [← Ny227.out] at hr12
        rw [← hy12] at hcut12
        have HR230 := Aside0.mk hr12
        have HC230 := Aside0.mk (show y227.length ≤ c0 from by omega)
        clear hr12 hC12 hroom12 hi012 hsz12
        have KY12 := Aside0.mk hy12
        clear hy12
        replace q12 := eq_true q12
        have HFEW := Aside0.mk (show ∀ W : World, Calls Try.prog 15 #[.slice A0 l0.length c0] W (fun e w' => e = .returned (.slice A0 y227.length c0) ∧ W = w') from fun W => by have h_ := catchmentlaw10_BlockBack_few_read A0 c0 l0 HC0.out W; rw [hji3, ← Ny227.out] at h_; exact h_.mono fun _ _ h => ⟨h.1, h.2.symm⟩)
        go_enter Try.func4, Try.ntmps4
        go_upto_region 5 with (first | (go_at_call 15; refine (HFEW.out _).mono ?_; rintro e w_ ⟨rfl, rfl⟩) | ((with_reducible refine gate_callee (f := 17) rfl ?_); refine goesL_ (some 18) rfl rfl Try.func17 (by kernel_rfl) rfl #[.string a1] rfl (by (try simp only [List.map_toArray, List.map_cons, List.map_nil]); first | done | rfl | (simp only [List.length_drop, List.length_take]; rfl)) ?_; (with_reducible refine (block_Unpack.calls k a1 t232 t233 _ A10.out).mono ?_); rintro e w13 ⟨v234, rfl, ho0, hb⟩; refine ⟨_, rfl, ?_⟩; have n0_ := Aside0.mk (Kd.R_lower ho0 (below_size (by repeat (first | (with_reducible first | exact HB.out | apply below_alloc | apply pw_below_drewN | apply below_drew1) | exact HB.out)))); have n1_ := Aside0.mk (below_step (by repeat (first | (with_reducible first | exact HB.out | apply below_alloc | apply pw_below_drewN | apply below_drew1) | exact HB.out)) hb); clear HB; have HO235 := n0_; have HB := n1_; clear n0_ n1_; (try clear hb); (try clear hb2); (try clear hk); (try clear hi); (try clear ho0)))
        (try simp only [Act.put, List.setIfInBounds_toArray, List.set_cons_zero, List.set_cons_succ])
        go_cut [28] (fun v28 wc => ∃ (kq : Nat) (x28_10 : Bool), v28 = .bool x28_10 ∧ Aside0 (catchmentlaw10_BlockBack.j0 kq y227 x28_10 = some r) ∧ Aside0 (kq ≤ k) ∧ Aside0 (Below w.heap.size w wc))
        case first =>
          have H := HC11.out
          clear HC11
          by_cases c14 : t233 = 0
          · rw [if_pos c14] at H
            have c14b0 : (t233 == 0) = true := beq_iff_eq.mpr c14
            have c14b1 : (t233 != 0) = false := bne_eq_false_iff_eq.mpr c14
            clear c14
            (first | rw [c14b0] | (simp only [i64_w, i32_w]; rw [c14b0]) | skip)
            replace H := Option.bind_eq_some_iff.mp H
            obtain ⟨t236, A150, H⟩ := H
            replace H : (catchmentlaw10_BlockBack.j0 k y227 (t236.toList != a1.toList)) = some r := H
            have A15 := Aside0.mk A150
            clear A150
            have H' := Aside0.mk H
            clear H
            obtain ⟨Ao16, co16, eo16⟩ := Kd.R_slice HO235.out
            subst eo16
            go_wp2_with (first | (go_at_call 19; (with_reducible refine (block_Pack.calls k _ _ t232 t236 _ ?side1 ?side2 A15.out).mono ?_); (case side1 => repeat (first | exact (Kd.R_reads' HO235.out).2.2 | (with_reducible refine Kd.C_alloc ?_ _) | (with_reducible refine Kd.C_drewN ?_ _) | (with_reducible refine Kd.C_drew ?_))); (case side2 => exact (Kd.R_reads' HO235.out).2.1); rintro e w17 ⟨rfl, hb⟩; have n0_ := Aside0.mk (Kd.R_below (by (with_reducible repeat (first | apply Kd.R_alloc | apply Kd.R_drewN | apply Kd.R_drew)); exact HO235.out) hb); have n1_ := Aside0.mk (below_step (by repeat (first | (with_reducible first | exact HB.out | apply below_alloc | apply pw_below_drewN | apply below_drew1) | exact HB.out)) hb); clear HO235; clear HB; have HO235 := n0_; have HB := n1_; clear n0_ n1_; (try clear hb); (try clear hb2); (try clear hk); (try clear hi)))
            go_meet
            case rel => exact ⟨_, ((t236.toList != a1.toList)), (by first | rfl | (simp; done) | (simp [*]; done)), H', ⟨by first | omega | exact Nat.le_refl _⟩, ⟨by repeat (first | (with_reducible first | exact HB.out | apply below_alloc | apply pw_below_drewN | apply below_drew1) | exact HB.out)⟩⟩
          · rw [if_neg c14] at H
            have c14b0 : (t233 == 0) = false := beq_eq_false_iff_ne.mpr c14
            have c14b1 : (t233 != 0) = true := bne_iff_ne.mpr c14
            (first | rw [c14b0] | (simp only [i64_w, i32_w]; rw [c14b0]) | skip)
            have H' := Aside0.mk H
            clear H
            go_wp2
            go_meet
            case rel => exact ⟨_, (false), (by first | rfl | (simp; done) | (simp [*]; done)), H', ⟨by first | omega | exact Nat.le_refl _⟩, ⟨by repeat (first | (with_reducible first | exact HB.out | apply below_alloc | apply pw_below_drewN | apply below_drew1) | exact HB.out)⟩⟩
        case rest =>
          clear HC11
          try clear c1
          try clear q1
          try clear p2
          try clear c4
          try clear c4b0
          try clear c4b1
          try clear c5
          try clear c5b0
          try clear c5b1
          try clear c6
          try clear c6b0
          try clear c6b1
          try clear q8
          try clear q12
          try clear c14
          try clear c14b0
          try clear c14b1
          try clear c16
          try clear c17
          try clear q12
          try clear q8
          obtain ⟨kq, x28_10, rfl, HA, HJ10, HB⟩ := hcut
          cases kq with
          | zero => exact absurd HA.out (by simp [catchmentlaw10_BlockBack.j0])
          | succ kj10 =>
            have H := HA.out
            clear HA
            simp only [catchmentlaw10_BlockBack.j0] at H
            by_cases c18 : x28_10 = true
            · subst c18
              have H1 : (none) = some r := by rw [if_pos rfl] at H; exact H
              clear H
              have H := H1
              clear H1
              exact absurd H (by simp)
            · replace c18 := Bool.eq_false_iff.mpr c18
              subst c18
              have H1 : ((catchmentref05_Rises.f kj10 y227).bind fun t237 => (if t237 = true then (catchmentlaw10_BlockBack.l0 kj10 y227 0) else ((catchmentlaw10_live.f kj10).bind fun t238 => (if t238 = true then ((block_Pack.f kj10 y227).bind fun t239 => (some (t239.toList == ([] : List UInt8)))) else (none))))) = some r := by rw [if_neg (show ¬ (false = true) by decide)] at H; exact H
              clear H
              have H := H1
              clear H1
              replace H := Option.bind_eq_some_iff.mp H
              obtain ⟨t237, A190, H⟩ := H
              replace H : (if t237 = true then (catchmentlaw10_BlockBack.l0 kj10 y227 0) else ((catchmentlaw10_live.f kj10).bind fun t238 => (if t238 = true then ((block_Pack.f kj10 y227).bind fun t239 => (some (t239.toList == ([] : List UInt8)))) else (none)))) = some r := H
              have A19 := Aside0.mk A190
              clear A190
              by_cases c20 : t237 = true
              · subst c20
                have H1 : (catchmentlaw10_BlockBack.l0 kj10 y227 0) = some r := by rw [if_pos rfl] at H; exact H
                clear H
                have H := H1
                clear H1
                have H' := Aside0.mk H
                clear H
                go_wp2_with (first | ((with_reducible refine gate_callee (f := 22) rfl ?_); refine goesL_ (some 30) rfl rfl Try.func22 (by kernel_rfl) rfl #[(.slice A0 y227.length c0)] rfl (by (try simp only [List.map_toArray, List.map_cons, List.map_nil]); first | done | rfl | (simp only [List.length_drop, List.length_take]; rfl)) ?_; (with_reducible refine (catchmentref05_Rises.calls kj10 _ _ y227 true _ ?side1 ?side2 A19.out).mono ?_); (case side1 => repeat (first | exact (Kd.C_below HR230.out HB.out) | (with_reducible refine Kd.C_alloc ?_ _) | (with_reducible refine Kd.C_drewN ?_ _) | (with_reducible refine Kd.C_drew ?_))); (case side2 => exact HC230.out); rintro e w' ⟨rfl, ⟨nd, rfl⟩⟩; refine ⟨_, rfl, ?_⟩))
                (try simp only [Act.put, List.setIfInBounds_toArray, List.set_cons_zero, List.set_cons_succ])
                go_loopg [7] kj10 (fun kq v7 w' => ∃ (x7_2 : Int), v7 = .int .i64 x7_2 ∧ Aside0 (catchmentlaw10_BlockBack.l0 kq y227 x7_2 = some r) ∧ Aside0 (kq ≤ kj10) ∧ Aside0 (Below w.heap.size w w'))
                case atStart => exact ⟨(0), (by first | rfl | (simp; done) | (simp [*]; done)), H', ⟨Nat.le_refl _⟩, ⟨by repeat (first | (with_reducible first | exact HB.out | apply below_alloc | apply pw_below_drewN | apply below_drew1) | exact HB.out)⟩⟩
                case round =>
                  clear H'
                  try clear c1
                  try clear q1
                  try clear c2
                  try clear p2
                  try clear c4
                  try clear c4b0
                  try clear c4b1
                  try clear c5
                  try clear c5b0
                  try clear c5b1
                  try clear c6
                  try clear c6b0
                  try clear c6b1
                  try clear q8
                  try clear q12
                  try clear c14
                  try clear c14b0
                  try clear c14b1
                  try clear c16
                  try clear c17
                  try clear c18
                  try clear c20
                  try clear p2
                  try clear q1
                  try clear q12
                  try clear q8
                  obtain ⟨x7_2, rfl, HA, HK2, HB⟩ := hrel
                  cases gk with
                  | zero => exact absurd HA.out (by simp [catchmentlaw10_BlockBack.l0])
                  | succ k2 =>
                    have H := HA.out
                    clear HA
                    simp only [catchmentlaw10_BlockBack.l0] at H
                    by_cases c21 : x7_2 < (y227.length : Int)
                    · rw [if_pos c21] at H
                      have c21b0 : decide (x7_2 < (y227.length : Int)) = true := decide_eq_true c21
                      clear c21
                      by_cases c22 : 0 ≤ x7_2
                      · rw [if_pos c22] at H
                        have c22b0 : decide (0 ≤ x7_2) = true := decide_eq_true c22
                        clear c22
                        by_cases c23 : (((rd_T25 y227 x7_2).f0).size : Int) > 256
                        · rw [if_pos c23] at H
                          have c23b0 : decide (256 < (((rd_T25 y227 x7_2).f0).size : Int)) = true := decide_eq_true c23
                          have c23b1 : decide (256 < ((rd_T25 y227 x7_2).f0).size) = true := decide_eq_true (by omega)
                          clear c23
                          replace H := Option.bind_eq_some_iff.mp H
                          obtain ⟨t242, A240, H⟩ := H
                          replace H : (some t242) = some r := H
                          have A24 := Aside0.mk A240
                          clear A240
                          obtain rfl := Option.some.inj H
                          have p240 : 0 ≤ (x7_2 : Int) := of_decide_eq_true (by first | (with_reducible assumption) | assumption)
                          have q240 : x7_2 < (y227.length : Int) := of_decide_eq_true (by first | (with_reducible assumption) | assumption)
                          obtain ⟨ad240, e240, hx240_0, hx240_1⟩ := at_T25 HR230.out x7_2 p240 q240
                          cases e240
                          replace hx240_0 := (HB.out.cell (World.block_lt_of_cell? w _ hx240_0)).trans hx240_0
                          replace hx240_1 := (HB.out.cell (World.block_lt_of_cell? w _ hx240_1)).trans hx240_1
                          replace p240 := eq_true p240
                          replace q240 := eq_true q240
                          go_wp2_with (first | ((with_reducible refine gate_callee (f := 16) rfl ?_); refine goesL_ (some 60) rfl rfl Try.func16 (by kernel_rfl) rfl #[] rfl (by (try simp only [List.map_toArray, List.map_cons, List.map_nil]); first | done | rfl | (simp only [List.length_drop, List.length_take]; rfl)) ?_; (with_reducible refine (catchmentlaw10_live.calls k2  t242 _ A24.out).mono ?_); rintro e w25 ⟨rfl, hb⟩; refine ⟨_, rfl, ?_⟩; have n0_ := Aside0.mk (below_step (by repeat (first | (with_reducible first | exact HB.out | apply below_alloc | apply pw_below_drewN | apply below_drew1) | exact HB.out)) hb); clear HB; have HB := n0_; clear n0_; (try clear hb); (try clear hb2); (try clear hk); (try clear hi)))
                          go_ret
                          exact ⟨by first | rfl | (simp [errW_none, errW_some] <;> rfl) | (simp only [← hji3]; first | rfl | (simp [errW_none, errW_some] <;> rfl)) | (simp [*, errW_none, errW_some] <;> rfl), by repeat (first | (with_reducible first | exact HB.out | apply below_alloc | apply pw_below_drewN | apply below_drew1) | exact HB.out)⟩
                        · rw [if_neg c23] at H
                          have c23b0 : decide (256 < (((rd_T25 y227 x7_2).f0).size : Int)) = false := decide_eq_false c23
                          have c23b1 : decide (256 < ((rd_T25 y227 x7_2).f0).size) = false := decide_eq_false (by omega)
                          clear c23
                          by_cases c26 : (((rd_T25 y227 x7_2).f1).size : Int) > 4096
                          · rw [if_pos c26] at H
                            have c26b0 : decide (4096 < (((rd_T25 y227 x7_2).f1).size : Int)) = true := decide_eq_true c26
                            have c26b1 : decide (4096 < ((rd_T25 y227 x7_2).f1).size) = true := decide_eq_true (by omega)
                            clear c26
                            replace H := Option.bind_eq_some_iff.mp H
                            obtain ⟨t243, A270, H⟩ := H
                            replace H : (some t243) = some r := H
                            have A27 := Aside0.mk A270
                            clear A270
                            obtain rfl := Option.some.inj H
                            have p240 : 0 ≤ (x7_2 : Int) := of_decide_eq_true (by first | (with_reducible assumption) | assumption)
                            have q240 : x7_2 < (y227.length : Int) := of_decide_eq_true (by first | (with_reducible assumption) | assumption)
                            obtain ⟨ad240, e240, hx240_0, hx240_1⟩ := at_T25 HR230.out x7_2 p240 q240
                            cases e240
                            replace hx240_0 := (HB.out.cell (World.block_lt_of_cell? w _ hx240_0)).trans hx240_0
                            replace hx240_1 := (HB.out.cell (World.block_lt_of_cell? w _ hx240_1)).trans hx240_1
                            replace p240 := eq_true p240
                            replace q240 := eq_true q240
                            have p241 : 0 ≤ (x7_2 : Int) := of_decide_eq_true (by first | (with_reducible assumption) | assumption)
                            have q241 : x7_2 < (y227.length : Int) := of_decide_eq_true (by first | (with_reducible assumption) | assumption)
                            obtain ⟨ad241, e241, hx241_0, hx241_1⟩ := at_T25 HR230.out x7_2 p241 q241
                            obtain rfl : ad240 = ad241 := (by injection e241)
                            replace hx241_0 := (HB.out.cell (World.block_lt_of_cell? w _ hx241_0)).trans hx241_0
                            replace hx241_1 := (HB.out.cell (World.block_lt_of_cell? w _ hx241_1)).trans hx241_1
                            replace p241 := eq_true p241
                            replace q241 := eq_true q241
                            go_wp2_with (first | ((with_reducible refine gate_callee (f := 16) rfl ?_); refine goesL_ (some 60) rfl rfl Try.func16 (by kernel_rfl) rfl #[] rfl (by (try simp only [List.map_toArray, List.map_cons, List.map_nil]); first | done | rfl | (simp only [List.length_drop, List.length_take]; rfl)) ?_; (with_reducible refine (catchmentlaw10_live.calls k2  t243 _ A27.out).mono ?_); rintro e w28 ⟨rfl, hb⟩; refine ⟨_, rfl, ?_⟩; have n0_ := Aside0.mk (below_step (by repeat (first | (with_reducible first | exact HB.out | apply below_alloc | apply pw_below_drewN | apply below_drew1) | exact HB.out)) hb); clear HB; have HB := n0_; clear n0_; (try clear hb); (try clear hb2); (try clear hk); (try clear hi)))
                            go_ret
                            exact ⟨by first | rfl | (simp [errW_none, errW_some] <;> rfl) | (simp only [← hji3]; first | rfl | (simp [errW_none, errW_some] <;> rfl)) | (simp [*, errW_none, errW_some] <;> rfl), by repeat (first | (with_reducible first | exact HB.out | apply below_alloc | apply pw_below_drewN | apply below_drew1) | exact HB.out)⟩
                          · rw [if_neg c26] at H
                            have c26b0 : decide (4096 < (((rd_T25 y227 x7_2).f1).size : Int)) = false := decide_eq_false c26
                            have c26b1 : decide (4096 < ((rd_T25 y227 x7_2).f1).size) = false := decide_eq_false (by omega)
                            clear c26
                            have H' := Aside0.mk H
                            clear H
                            have p240 : 0 ≤ (x7_2 : Int) := of_decide_eq_true (by first | (with_reducible assumption) | assumption)
                            have q240 : x7_2 < (y227.length : Int) := of_decide_eq_true (by first | (with_reducible assumption) | assumption)
                            obtain ⟨ad240, e240, hx240_0, hx240_1⟩ := at_T25 HR230.out x7_2 p240 q240
                            cases e240
                            replace hx240_0 := (HB.out.cell (World.block_lt_of_cell? w _ hx240_0)).trans hx240_0
                            replace hx240_1 := (HB.out.cell (World.block_lt_of_cell? w _ hx240_1)).trans hx240_1
                            replace p240 := eq_true p240
                            replace q240 := eq_true q240
                            have p241 : 0 ≤ (x7_2 : Int) := of_decide_eq_true (by first | (with_reducible assumption) | assumption)
                            have q241 : x7_2 < (y227.length : Int) := of_decide_eq_true (by first | (with_reducible assumption) | assumption)
                            obtain ⟨ad241, e241, hx241_0, hx241_1⟩ := at_T25 HR230.out x7_2 p241 q241
                            obtain rfl : ad240 = ad241 := (by injection e241)
                            replace hx241_0 := (HB.out.cell (World.block_lt_of_cell? w _ hx241_0)).trans hx241_0
                            replace hx241_1 := (HB.out.cell (World.block_lt_of_cell? w _ hx241_1)).trans hx241_1
                            replace p241 := eq_true p241
                            replace q241 := eq_true q241
                            go_wp2
                            go_roundg k2
                            case measure => have := HJ10.out; have := HK2.out; omega
                            case rel => exact ⟨(wrap64 (x7_2 + 1)), (by first | rfl | (simp; done) | (simp [*]; done)), H', ⟨by have := HJ10.out; have := HK2.out; omega⟩, ⟨by repeat (first | (with_reducible first | exact HB.out | apply below_alloc | apply pw_below_drewN | apply below_drew1) | exact HB.out)⟩⟩
                      · rw [if_neg c22] at H
                        exact absurd H (by simp)
                    · rw [if_neg c21] at H
                      have c21b0 : decide (x7_2 < (y227.length : Int)) = false := decide_eq_false c21
                      clear c21
                      replace H := Option.bind_eq_some_iff.mp H
                      obtain ⟨t244, A290, H⟩ := H
                      replace H : ((block_Unpack.f k2 t244).bind fun bt245 => ((catchmentlaw10_live.f k2).bind fun t249 => (if t249 = true then (if bt245.2 = 0 then ((catchmentref05_Same.f k2 bt245.1 y227).bind fun t250 => (some t250)) else (none)) else (none)))) = some r := H
                      have A29 := Aside0.mk A290
                      clear A290
                      replace H := Option.bind_eq_some_iff.mp H
                      obtain ⟨⟨t245, t246⟩, A300, H⟩ := H
                      replace H : ((catchmentlaw10_live.f k2).bind fun t249 => (if t249 = true then (if t246 = 0 then ((catchmentref05_Same.f k2 t245 y227).bind fun t250 => (some t250)) else (none)) else (none))) = some r := H
                      have A30 := Aside0.mk A300
                      clear A300
                      replace H := Option.bind_eq_some_iff.mp H
                      obtain ⟨t249, A310, H⟩ := H
                      replace H : (if t249 = true then (if t246 = 0 then ((catchmentref05_Same.f k2 t245 y227).bind fun t250 => (some t250)) else (none)) else (none)) = some r := H
                      have A31 := Aside0.mk A310
                      clear A310
                      by_cases c32 : t249 = true
                      · subst c32
                        have H1 : (if t246 = 0 then ((catchmentref05_Same.f k2 t245 y227).bind fun t250 => (some t250)) else (none)) = some r := by rw [if_pos rfl] at H; exact H
                        clear H
                        have H := H1
                        clear H1
                        by_cases c33 : t246 = 0
                        · rw [if_pos c33] at H
                          have c33b0 : (t246 == 0) = true := beq_iff_eq.mpr c33
                          have c33b1 : (t246 != 0) = false := bne_eq_false_iff_eq.mpr c33
                          clear c33
                          replace H := Option.bind_eq_some_iff.mp H
                          obtain ⟨t250, A340, H⟩ := H
                          replace H : (some t250) = some r := H
                          have A34 := Aside0.mk A340
                          clear A340
                          obtain rfl := Option.some.inj H
                          go_wp2_with (first | ((with_reducible refine gate_callee (f := 19) rfl ?_); refine goesL_ (some 63) rfl rfl Try.func19 (by kernel_rfl) rfl #[(.slice A0 y227.length c0)] rfl (by (try simp only [List.map_toArray, List.map_cons, List.map_nil]); first | done | rfl | (simp only [List.length_drop, List.length_take]; rfl)) ?_; (with_reducible refine (block_Pack.calls k2 _ _ y227 t244 _ ?side1 ?side2 A29.out).mono ?_); (case side1 => repeat (first | exact (Kd.C_below HR230.out HB.out) | (with_reducible refine Kd.C_alloc ?_ _) | (with_reducible refine Kd.C_drewN ?_ _) | (with_reducible refine Kd.C_drew ?_))); (case side2 => exact HC230.out); rintro e w35 ⟨rfl, hb⟩; refine ⟨_, rfl, ?_⟩; have n0_ := Aside0.mk (below_step (by repeat (first | (with_reducible first | exact HB.out | apply below_alloc | apply pw_below_drewN | apply below_drew1) | exact HB.out)) hb); clear HB; have HB := n0_; clear n0_; (try clear hb); (try clear hb2); (try clear hk); (try clear hi)) | ((with_reducible refine gate_callee (f := 17) rfl ?_); refine goesL_ (some 64) rfl rfl Try.func17 (by kernel_rfl) rfl #[.string t244] rfl (by (try simp only [List.map_toArray, List.map_cons, List.map_nil]); first | done | rfl | (simp only [List.length_drop, List.length_take]; rfl)) ?_; (with_reducible refine (block_Unpack.calls k2 t244 t245 t246 _ A30.out).mono ?_); rintro e w36 ⟨v247, rfl, ho0, hb⟩; refine ⟨_, rfl, ?_⟩; have n0_ := Aside0.mk (Kd.R_lower ho0 (below_size (by repeat (first | (with_reducible first | exact HB.out | apply below_alloc | apply pw_below_drewN | apply below_drew1) | exact HB.out)))); have n1_ := Aside0.mk (below_step (by repeat (first | (with_reducible first | exact HB.out | apply below_alloc | apply pw_below_drewN | apply below_drew1) | exact HB.out)) hb); clear HB; have HO248 := n0_; have HB := n1_; clear n0_ n1_; (try clear hb); (try clear hb2); (try clear hk); (try clear hi); (try clear ho0)) | ((with_reducible refine gate_callee (f := 16) rfl ?_); refine goesL_ (some 67) rfl rfl Try.func16 (by kernel_rfl) rfl #[] rfl (by (try simp only [List.map_toArray, List.map_cons, List.map_nil]); first | done | rfl | (simp only [List.length_drop, List.length_take]; rfl)) ?_; (with_reducible refine (catchmentlaw10_live.calls k2  true _ A31.out).mono ?_); rintro e w37 ⟨rfl, hb⟩; refine ⟨_, rfl, ?_⟩; have n0_ := Aside0.mk (Kd.R_below (by (with_reducible repeat (first | apply Kd.R_alloc | apply Kd.R_drewN | apply Kd.R_drew)); exact HO248.out) hb); have n1_ := Aside0.mk (below_step (by repeat (first | (with_reducible first | exact HB.out | apply below_alloc | apply pw_below_drewN | apply below_drew1) | exact HB.out)) hb); clear HO248; clear HB; have HO248 := n0_; have HB := n1_; clear n0_ n1_; (try clear hb); (try clear hb2); (try clear hk); (try clear hi); obtain ⟨Ao38, co38, eo38⟩ := Kd.R_slice HO248.out; subst eo38) | (go_at_call 21; (with_reducible refine (catchmentref05_Same.calls k2 _ _ t245 _ _ y227 t250 _ ?side1 ?side2 ?side3 ?side4 A34.out).mono ?_); (case side1 => repeat (first | exact (Kd.R_reads' HO248.out).2.2 | (with_reducible refine Kd.C_alloc ?_ _) | (with_reducible refine Kd.C_drewN ?_ _) | (with_reducible refine Kd.C_drew ?_))); (case side2 => exact (Kd.R_reads' HO248.out).2.1); (case side3 => repeat (first | exact (Kd.C_below HR230.out HB.out) | (with_reducible refine Kd.C_alloc ?_ _) | (with_reducible refine Kd.C_drewN ?_ _) | (with_reducible refine Kd.C_drew ?_))); (case side4 => exact HC230.out); rintro e w' ⟨rfl, ⟨nd, rfl⟩⟩))
                          go_ret
                          exact ⟨by first | rfl | (simp [errW_none, errW_some] <;> rfl) | (simp only [← hji3]; first | rfl | (simp [errW_none, errW_some] <;> rfl)) | (simp [*, errW_none, errW_some] <;> rfl), by repeat (first | (with_reducible first | exact HB.out | apply below_alloc | apply pw_below_drewN | apply below_drew1) | exact HB.out)⟩
                        · rw [if_neg c33] at H
                          exact absurd H (by simp)
                      · replace c32 := Bool.eq_false_iff.mpr c32
                        subst c32
                        have H1 : (none) = some r := by rw [if_neg (show ¬ (false = true) by decide)] at H; exact H
                        clear H
                        have H := H1
                        clear H1
                        exact absurd H (by simp)
              · replace c20 := Bool.eq_false_iff.mpr c20
                subst c20
                have H1 : ((catchmentlaw10_live.f kj10).bind fun t238 => (if t238 = true then ((block_Pack.f kj10 y227).bind fun t239 => (some (t239.toList == ([] : List UInt8)))) else (none))) = some r := by rw [if_neg (show ¬ (false = true) by decide)] at H; exact H
                clear H
                have H := H1
                clear H1
                replace H := Option.bind_eq_some_iff.mp H
                obtain ⟨t238, A390, H⟩ := H
                replace H : (if t238 = true then ((block_Pack.f kj10 y227).bind fun t239 => (some (t239.toList == ([] : List UInt8)))) else (none)) = some r := H
                have A39 := Aside0.mk A390
                clear A390
                by_cases c40 : t238 = true
                · subst c40
                  have H1 : ((block_Pack.f kj10 y227).bind fun t239 => (some (t239.toList == ([] : List UInt8)))) = some r := by rw [if_pos rfl] at H; exact H
                  clear H
                  have H := H1
                  clear H1
                  replace H := Option.bind_eq_some_iff.mp H
                  obtain ⟨t239, A410, H⟩ := H
                  replace H : (some (t239.toList == ([] : List UInt8))) = some r := H
                  have A41 := Aside0.mk A410
                  clear A410
                  obtain rfl := Option.some.inj H
                  go_wp2_with (first | ((with_reducible refine gate_callee (f := 22) rfl ?_); refine goesL_ (some 30) rfl rfl Try.func22 (by kernel_rfl) rfl #[(.slice A0 y227.length c0)] rfl (by (try simp only [List.map_toArray, List.map_cons, List.map_nil]); first | done | rfl | (simp only [List.length_drop, List.length_take]; rfl)) ?_; (with_reducible refine (catchmentref05_Rises.calls kj10 _ _ y227 false _ ?side1 ?side2 A19.out).mono ?_); (case side1 => repeat (first | exact (Kd.C_below HR230.out HB.out) | (with_reducible refine Kd.C_alloc ?_ _) | (with_reducible refine Kd.C_drewN ?_ _) | (with_reducible refine Kd.C_drew ?_))); (case side2 => exact HC230.out); rintro e w' ⟨rfl, ⟨nd, rfl⟩⟩; refine ⟨_, rfl, ?_⟩) | ((with_reducible refine gate_callee (f := 16) rfl ?_); refine goesL_ (some 32) rfl rfl Try.func16 (by kernel_rfl) rfl #[] rfl (by (try simp only [List.map_toArray, List.map_cons, List.map_nil]); first | done | rfl | (simp only [List.length_drop, List.length_take]; rfl)) ?_; (with_reducible refine (catchmentlaw10_live.calls kj10  true _ A39.out).mono ?_); rintro e w42 ⟨rfl, hb⟩; refine ⟨_, rfl, ?_⟩; have n0_ := Aside0.mk (below_step (by repeat (first | (with_reducible first | exact HB.out | apply below_alloc | apply pw_below_drewN | apply below_drew1) | exact HB.out)) hb); clear HB; have HB := n0_; clear n0_; (try clear hb); (try clear hb2); (try clear hk); (try clear hi)) | (go_at_call 19; (with_reducible refine (block_Pack.calls kj10 _ _ y227 t239 _ ?side1 ?side2 A41.out).mono ?_); (case side1 => repeat (first | exact (Kd.C_below HR230.out HB.out) | (with_reducible refine Kd.C_alloc ?_ _) | (with_reducible refine Kd.C_drewN ?_ _) | (with_reducible refine Kd.C_drew ?_))); (case side2 => exact HC230.out); rintro e w43 ⟨rfl, hb⟩; have n0_ := Aside0.mk (below_step (by repeat (first | (with_reducible first | exact HB.out | apply below_alloc | apply pw_below_drewN | apply below_drew1) | exact HB.out)) hb); clear HB; have HB := n0_; clear n0_; (try clear hb); (try clear hb2); (try clear hk); (try clear hi)))
                  go_ret
                  exact ⟨by first | rfl | (simp [errW_none, errW_some] <;> rfl) | (simp only [← hji3]; first | rfl | (simp [errW_none, errW_some] <;> rfl)) | (simp [*, errW_none, errW_some] <;> rfl), by repeat (first | (with_reducible first | exact HB.out | apply below_alloc | apply pw_below_drewN | apply below_drew1) | exact HB.out)⟩
                · replace c40 := Bool.eq_false_iff.mpr c40
                  subst c40
                  have H1 : (none) = some r := by rw [if_neg (show ¬ (false = true) by decide)] at H; exact H
                  clear H
                  have H := H1
                  clear H1
                  exact absurd H (by simp)
    · rw [if_neg c5] at H
      exact absurd H (by simp)
  · rw [if_neg c4] at H
    exact absurd H (by simp)
/-- THE ONE PURE STATEMENT of catchmentlaw10_BlockBack. -/
def catchmentlaw10_BlockBack.Pure : Prop := ∀ (l0 : List (S25)) (a1 : ByteArray), (fun xs : List (S25) => xs.length ≤ maxLen ∧ xs.length * 32 ≤ 140737488351232 ∧ ∀ x ∈ xs, ok25 x) l0 → (fun s : ByteArray => s.size ≤ 140737488351232) a1 → ∃ k, catchmentlaw10_BlockBack.f k l0 a1 = some true
theorem catchmentlaw10_BlockBack.walk (P : catchmentlaw10_BlockBack.Pure) (A0 : Option Addr) (c0 : Nat) (l0 : List (S25)) (a1 : ByteArray) (w : World) (hr0 : Kd.C k25 w A0 l0.length l0) (hc0 : l0.length ≤ c0) (ok_0 : (fun xs : List (S25) => xs.length ≤ maxLen ∧ xs.length * 32 ≤ 140737488351232 ∧ ∀ x ∈ xs, ok25 x) l0) (ok_1 : (fun s : ByteArray => s.size ≤ 140737488351232) a1) :
    Calls Try.prog 4 #[.slice A0 l0.length c0, .string a1] w fun e w' => e = .returned (.bool true) ∧ Below w.heap.size w w' := by
  obtain ⟨k, h⟩ := P l0 a1 ok_0 ok_1
  refine (catchmentlaw10_BlockBack.calls k A0 c0 l0 a1 true w hr0 hc0 h).mono ?_
  rintro e w' ⟨rfl, hd⟩
  exact ⟨rfl, hd⟩

end Go.Proofs.Ytnklnjghecmihaa.H6
