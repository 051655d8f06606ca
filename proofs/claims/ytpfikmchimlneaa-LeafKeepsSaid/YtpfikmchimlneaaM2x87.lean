-- written by a program of this session (wip/myprint.py), over the kit's printer and the session's own contracts
import Derived.Test.YtpfikmchimlneaaM2x0
import Derived.Test.YtpfikmchimlneaaM2x2
import Derived.Test.YtpfikmchimlneaaM2x4
import Derived.Test.YtpfikmchimlneaaM2x6
import Derived.Test.YtpfikmchimlneaaM2x54
import Derived.Test.YtpfikmchimlneaaM2P0
import Derived.Test.YtpfikmchimlneaaM2x59
import Derived.Test.YtpfikmchimlneaaM2x62
import Derived.Test.YtpfikmchimlneaaM2x63
import Derived.Test.YtpfikmchimlneaaM2x78
import Derived.Test.YtpfikmchimlneaaM2P1
namespace Go.Proofs.Ytpfikmchimlneaa.M2
open Go.RowKit Go.Proofs.YtpfikmchimlneaaW.PrintWords Go.Proofs.YtpfikmchimlneaaW.PrintLast Go.Proofs.YtpfikmchimlneaaW.PrintMore Go.Proofs.YtpfikmchimlneaaW.Mine
attribute [local go_sem] max2_int min2_int max_two min_two max_three min_three max_four min_four max2_str min2_str binOp_gtr_str binOp_leq_str binOp_geq_str   -- for this text's walks alone
set_option linter.unusedVariables false
set_option linter.unusedSimpArgs false

/-! ### catchmentlaw11_LeafKeeps: function 8 -/
def catchmentlaw11_LeafKeeps.j0 : Nat → List (List (S85)) → List (S69) → Int → List (List (S85)) → Bool → Option (Bool)
  | 0, _, _, _, _, _ => none
  | k + 1, x0, x1, x2, x7, x8 => (catchmentlaw11_live.f k).bind fun t512 => (if t512 = true then ((leaf_Entries.f x7).bind fun t513 => ((catchmentref11_Entries.f k x0).bind fun t516 => ((catchmentref05_Entries.f k x1 t516 (⟨#[]⟩ : ByteArray) (⟨#[]⟩ : ByteArray)).bind fun t519 => ((catchmentref05_Same.f k t513 t519).bind fun t522 => (if t522 = true then (if x8 = true then ((leaf_Right.f k x7 x2).bind fun t523 => (if t523 = true then ((leaf_Right.f k x7 1000).bind fun t524 => (some t524)) else (none))) else ((leaf_Right.f k x7 1000).bind fun t525 => (some t525))) else (none)))))) else (none))
def catchmentlaw11_LeafKeeps.f (k : Nat) (l0 : List (List (S85))) (l1 : List (S69)) (a2 : Int) : Option (Bool) := (catchmentlaw11_few.f k l0).bind fun t499 => (if 0 ≤ (mn (l1.length : Int) 30) then (if (mn (l1.length : Int) 30) ≤ (l1.length : Int) then ((some (l1.take ((mn (l1.length : Int) 30) : Int).toNat : List (S69))).bind fun y502 => ((catchmentref11_Row.f k t499).bind fun t506 => (if t506 = true then ((leaf_Fold.f k t499 y502 a2).bind fun t508 => (if a2 ≥ 2 then ((catchmentref11_Right.f k t499 a2).bind fun t511 => (catchmentlaw11_LeafKeeps.j0 k t499 y502 a2 t508 t511)) else (catchmentlaw11_LeafKeeps.j0 k t499 y502 a2 t508 false))) else ((catchmentlaw11_live.f k).bind fun t507 => (some t507))))) else (none)) else (none))
theorem catchmentlaw11_LeafKeeps.mono_l : ∀ k, (∀ y0 y1 y2 y3 y4, LeO (catchmentlaw11_LeafKeeps.j0 k y0 y1 y2 y3 y4) (catchmentlaw11_LeafKeeps.j0 (k + 1) y0 y1 y2 y3 y4))
  | 0 => fun _ _ _ _ _ r h => by simp [catchmentlaw11_LeafKeeps.j0] at h
  | k + 1 => by
    have ih0 := catchmentlaw11_LeafKeeps.mono_l k
    · intro y0 y1 y2 y3 y4
      unfold catchmentlaw11_LeafKeeps.j0
      repeat' first
      | (with_reducible exact ih0 _ _ _ _ _)
      | (with_reducible exact catchmentlaw11_few.mono _ _)
      | (with_reducible exact catchmentlaw11_live.mono _)
      | (with_reducible exact catchmentref05_Entries.mono _ _ _ _ _)
      | (with_reducible exact catchmentref05_Same.mono _ _ _)
      | (with_reducible exact catchmentref11_Entries.mono _ _)
      | (with_reducible exact catchmentref11_Right.mono _ _ _)
      | (with_reducible exact catchmentref11_Row.mono _ _)
      | (with_reducible exact leaf_Fold.mono _ _ _ _)
      | (with_reducible exact leaf_Right.mono _ _ _)
      | (with_reducible exact LeO.refl _)
      | (with_reducible exact LeO.none _)
      | (with_reducible refine LeO.ite ?_ ?_)
      | (with_reducible refine LeO.bind ?_ (fun _ => ?_))
      | exact ih0 _ _ _ _ _
      | exact catchmentlaw11_few.mono _ _
      | exact catchmentlaw11_live.mono _
      | exact catchmentref05_Entries.mono _ _ _ _ _
      | exact catchmentref05_Same.mono _ _ _
      | exact catchmentref11_Entries.mono _ _
      | exact catchmentref11_Right.mono _ _ _
      | exact catchmentref11_Row.mono _ _
      | exact leaf_Fold.mono _ _ _ _
      | exact leaf_Right.mono _ _ _
      | exact LeO.none _
      | refine LeO.ite ?_ ?_
      | refine LeO.bind ?_ (fun _ => ?_)
theorem catchmentlaw11_LeafKeeps.mono : ∀ a0 a1 a2 k, LeO (catchmentlaw11_LeafKeeps.f k a0 a1 a2) (catchmentlaw11_LeafKeeps.f (k + 1) a0 a1 a2) := by
  intro a0 a1 a2 k
  have ih0 := catchmentlaw11_LeafKeeps.mono_l k
  unfold catchmentlaw11_LeafKeeps.f
  repeat' first
      | (with_reducible exact ih0 _ _ _ _ _)
      | (with_reducible exact catchmentlaw11_few.mono _ _)
      | (with_reducible exact catchmentlaw11_live.mono _)
      | (with_reducible exact catchmentref05_Entries.mono _ _ _ _ _)
      | (with_reducible exact catchmentref05_Same.mono _ _ _)
      | (with_reducible exact catchmentref11_Entries.mono _ _)
      | (with_reducible exact catchmentref11_Right.mono _ _ _)
      | (with_reducible exact catchmentref11_Row.mono _ _)
      | (with_reducible exact leaf_Fold.mono _ _ _ _)
      | (with_reducible exact leaf_Right.mono _ _ _)
      | (with_reducible exact LeO.refl _)
      | (with_reducible exact LeO.none _)
      | (with_reducible refine LeO.ite ?_ ?_)
      | (with_reducible refine LeO.bind ?_ (fun _ => ?_))
      | exact ih0 _ _ _ _ _
      | exact catchmentlaw11_few.mono _ _
      | exact catchmentlaw11_live.mono _
      | exact catchmentref05_Entries.mono _ _ _ _ _
      | exact catchmentref05_Same.mono _ _ _
      | exact catchmentref11_Entries.mono _ _
      | exact catchmentref11_Right.mono _ _ _
      | exact catchmentref11_Row.mono _ _
      | exact leaf_Fold.mono _ _ _ _
      | exact leaf_Right.mono _ _ _
      | exact LeO.none _
      | refine LeO.ite ?_ ?_
      | refine LeO.bind ?_ (fun _ => ?_)
set_option maxRecDepth 100000 in
set_option maxHeartbeats 4000000 in
theorem catchmentlaw11_LeafKeeps_few_read (A0 : Option Addr) (c0 : Nat) (l0 : List (S69)) (hl : l0.length ≤ c0) (w : World) : Calls Try.prog 28 #[.slice A0 l0.length c0] w fun e w' => e = .returned (.slice A0 (l0.take (mn (l0.length : Int) 30).toNat).length c0) ∧ w' = w := by
  obtain ⟨j, hj⟩ : ∃ j, mn (l0.length : Int) 30 = j := ⟨_, rfl⟩
  have h1 : 0 ≤ j := by rw [← hj]; unfold mn; split <;> omega
  have h2 : j ≤ (l0.length : Int) := by rw [← hj]; unfold mn; split <;> omega
  rw [hj]
  have hj_ : (if 30 < (l0.length : Int) then 30 else (l0.length : Int)) = j := hj
  have hjn : (if 30 < l0.length then (30 : Int) else (l0.length : Int)) = j := by rw [← hj]; unfold mn; (repeat' split) <;> omega
  obtain ⟨i06, hi06, _, hsz6, _⟩ := info_parts info69
  have hcut6 := cut_to (P := Try.prog) 60 69 .i64 Try.underlying60 hi06 A0 l0.length c0 j h1 h2 hl
  clear hi06 hsz6 hj
  have hl2 : (l0.take j.toNat).length = j.toNat := by rw [List.length_take]; omega
  go_enter Try.func28, Try.ntmps28
  go_wp2
  all_goals (go_ret; refine ⟨?_, rfl⟩; rw [hl2]; rfl)
set_option maxHeartbeats 8000000 in
set_option maxRecDepth 100000 in
theorem catchmentlaw11_LeafKeeps.calls (k : Nat) (A0 : Option Addr) (c0 : Nat) (l0 : List (List (S85))) (A1 : Option Addr) (c1 : Nat) (l1 : List (S69)) (a2 : Int) (r : Bool) (w : World) (hr0 : Kd.C (Kd.slice 85 k85) w A0 l0.length l0) (hc0 : l0.length ≤ c0) (hr1 : Kd.C k69 w A1 l1.length l1) (hc1 : l1.length ≤ c1) (h : catchmentlaw11_LeafKeeps.f k l0 l1 a2 = some r) :
    Calls Try.prog 8 #[.slice A0 l0.length c0, .slice A1 l1.length c1, .int .i64 a2] w fun e w' => e = .returned (.bool r) ∧ Below w.heap.size w w' := by
  have hu78 := Try.underlying78
  have HR0 := Aside0.mk hr0
  have HC0 := Aside0.mk hc0
  clear hr0 hc0
  have HR1 := Aside0.mk hr1
  have HC1 := Aside0.mk hc1
  clear hr1 hc1
  have HB := Aside0.mk (Below.refl w.heap.size w)
  have H : ((catchmentlaw11_few.f k l0).bind fun t499 => (if 0 ≤ (mn (l1.length : Int) 30) then (if (mn (l1.length : Int) 30) ≤ (l1.length : Int) then ((some (l1.take ((mn (l1.length : Int) 30) : Int).toNat : List (S69))).bind fun y502 => ((catchmentref11_Row.f k t499).bind fun t506 => (if t506 = true then ((leaf_Fold.f k t499 y502 a2).bind fun t508 => (if a2 ≥ 2 then ((catchmentref11_Right.f k t499 a2).bind fun t511 => (catchmentlaw11_LeafKeeps.j0 k t499 y502 a2 t508 t511)) else (catchmentlaw11_LeafKeeps.j0 k t499 y502 a2 t508 false))) else ((catchmentlaw11_live.f k).bind fun t507 => (some t507))))) else (none)) else (none))) = some r := h
  clear h
  replace H := Option.bind_eq_some_iff.mp H
  obtain ⟨t499, A40, H⟩ := H
  replace H : (if 0 ≤ (mn (l1.length : Int) 30) then (if (mn (l1.length : Int) 30) ≤ (l1.length : Int) then ((some (l1.take ((mn (l1.length : Int) 30) : Int).toNat : List (S69))).bind fun y502 => ((catchmentref11_Row.f k t499).bind fun t506 => (if t506 = true then ((leaf_Fold.f k t499 y502 a2).bind fun t508 => (if a2 ≥ 2 then ((catchmentref11_Right.f k t499 a2).bind fun t511 => (catchmentlaw11_LeafKeeps.j0 k t499 y502 a2 t508 t511)) else (catchmentlaw11_LeafKeeps.j0 k t499 y502 a2 t508 false))) else ((catchmentlaw11_live.f k).bind fun t507 => (some t507))))) else (none)) else (none)) = some r := H
  have A4 := Aside0.mk A40
  clear A40
  obtain ⟨ji5, hji5⟩ : ∃ j_ : Int, (mn (l1.length : Int) 30) = j_ := ⟨_, rfl⟩
  replace H : (if 0 ≤ (ji5) then (if (ji5) ≤ (l1.length : Int) then ((some (l1.take ((ji5) : Int).toNat : List (S69))).bind fun y502 => ((catchmentref11_Row.f k t499).bind fun t506 => (if t506 = true then ((leaf_Fold.f k t499 y502 a2).bind fun t508 => (if a2 ≥ 2 then ((catchmentref11_Right.f k t499 a2).bind fun t511 => (catchmentlaw11_LeafKeeps.j0 k t499 y502 a2 t508 t511)) else (catchmentlaw11_LeafKeeps.j0 k t499 y502 a2 t508 false))) else ((catchmentlaw11_live.f k).bind fun t507 => (some t507))))) else (none)) else (none)) = some r := by first | (rw [hji5] at H; exact H) | (simp only [hji5] at H ⊢; exact H)
  (try rw [hji5] at A4)
  (try (have hji5h : ji5 ≤ 30 := by (rw [← hji5]; unfold mn; (repeat' split) <;> omega)))
  (try (have hji5g : ji5 ≤ 64 := by omega))
  (try (have hji5l : 0 ≤ ji5 := by (rw [← hji5]; unfold mn; (repeat' split) <;> omega)))
  (try (have hji5m : 0 ≤ ji5 := by omega))
  have hji5_ : (if 30 < (l1.length : Int) then 30 else (l1.length : Int)) = ji5 := hji5
  (try (have hji5n : (if 30 < l1.length then (30 : Int) else (l1.length : Int)) = ji5 := by (rw [← hji5]; unfold mn; (repeat' split) <;> omega)))
  by_cases c6 : 0 ≤ (ji5)
  · rw [if_pos c6] at H
    have c6b0 := eq_true c6
    have c6b1 : decide (0 ≤ (ji5)) = true := decide_eq_true c6
    clear c6
    by_cases c7 : (ji5) ≤ (l1.length : Int)
    · rw [if_pos c7] at H
      have c7b0 := eq_true c7
      have c7b1 : decide ((ji5) ≤ (l1.length : Int)) = true := decide_eq_true c7
      clear c7
      obtain ⟨y502, hy502⟩ : ∃ y_ : List (S69), y_ = (l1.take ((ji5) : Int).toNat) := ⟨_, rfl⟩
      replace H : ((catchmentref11_Row.f k t499).bind fun t506 => (if t506 = true then ((leaf_Fold.f k t499 y502 a2).bind fun t508 => (if a2 ≥ 2 then ((catchmentref11_Right.f k t499 a2).bind fun t511 => (catchmentlaw11_LeafKeeps.j0 k t499 y502 a2 t508 t511)) else (catchmentlaw11_LeafKeeps.j0 k t499 y502 a2 t508 false))) else ((catchmentlaw11_live.f k).bind fun t507 => (some t507)))) = some r := by first | (rw [hy502]; with_reducible exact H) | (have H2_ := (Option.bind_some _ _).symm.trans H; rw [hy502]; with_reducible exact H2_) | (have H2_ := (Option.bind_some _ _).symm.trans H; with_reducible exact H2_) | with_reducible exact H | (rw [hy502]; exact H) | exact H
      have Ny502 := Aside0.mk hy502
      clear hy502
      replace H := Option.bind_eq_some_iff.mp H
      obtain ⟨t506, A80, H⟩ := H
      replace H : (if t506 = true then ((leaf_Fold.f k t499 y502 a2).bind fun t508 => (if a2 ≥ 2 then ((catchmentref11_Right.f k t499 a2).bind fun t511 => (catchmentlaw11_LeafKeeps.j0 k t499 y502 a2 t508 t511)) else (catchmentlaw11_LeafKeeps.j0 k t499 y502 a2 t508 false))) else ((catchmentlaw11_live.f k).bind fun t507 => (some t507))) = some r := H
      have A8 := Aside0.mk A80
      clear A80
      by_cases c9 : t506 = true
      · subst c9
        have H1 : ((leaf_Fold.f k t499 y502 a2).bind fun t508 => (if a2 ≥ 2 then ((catchmentref11_Right.f k t499 a2).bind fun t511 => (catchmentlaw11_LeafKeeps.j0 k t499 y502 a2 t508 t511)) else (catchmentlaw11_LeafKeeps.j0 k t499 y502 a2 t508 false))) = some r := by rw [if_pos rfl] at H; exact H
        clear H
        have H := H1
        clear H1
        replace H := Option.bind_eq_some_iff.mp H
        obtain ⟨t508, A100, H⟩ := H
        replace H : (if a2 ≥ 2 then ((catchmentref11_Right.f k t499 a2).bind fun t511 => (catchmentlaw11_LeafKeeps.j0 k t499 y502 a2 t508 t511)) else (catchmentlaw11_LeafKeeps.j0 k t499 y502 a2 t508 false)) = some r := H
        have A10 := Aside0.mk A100
        clear A100
        have HC11 := Aside0.mk H
        clear H
        have HFEW := Aside0.mk (show ∀ W : World, Calls Try.prog 28 #[.slice A1 l1.length c1] W (fun e w' => e = .returned (.slice A1 y502.length c1) ∧ W = w') from fun W => by have h_ := catchmentlaw11_LeafKeeps_few_read A1 c1 l1 HC1.out W; rw [hji5, ← Ny502.out] at h_; exact h_.mono fun _ _ h => ⟨h.1, h.2.symm⟩)
        go_enter Try.func8, Try.ntmps8
        go_upto_region 5 with (first | (go_at_call 28; refine (HFEW.out _).mono ?_; rintro e w_ ⟨rfl, rfl⟩) | ((with_reducible refine gate_callee (f := 27) rfl ?_); refine goesL_ (some 10) rfl rfl Try.func27 (by kernel_rfl) rfl #[.slice A0 l0.length c0] rfl (by (try simp only [List.map_toArray, List.map_cons, List.map_nil]); first | done | rfl | (simp only [List.length_drop, List.length_take]; rfl)) ?_; (with_reducible refine (catchmentlaw11_few.calls k (fun k_ => k_ < w.heap.size) _ _ l0 t499 _ ?side1 A4.out).mono ?_); (case side1 => exact Kd.V_mk HC0.out (Kd.F_below (Kd.C_F (Kd.heap_slice 85 k85_heap) HR0.out) (by repeat (first | (with_reducible first | exact HB.out | apply below_alloc | apply pw_below_drewN | apply below_drew1) | exact HB.out)))); rintro e w12 ⟨v500, rfl, ho0, hb⟩; refine ⟨_, rfl, ?_⟩; have n0_ := Aside0.mk (Kd.N_lower (Kd.N_mono (ok' := fun k_ => True) ho0 (fun k_ hk_ => trivial)) (below_size (by repeat (first | (with_reducible first | exact HB.out | apply below_alloc | apply pw_below_drewN | apply below_drew1) | exact HB.out)))); have n1_ := Aside0.mk (below_step (by repeat (first | (with_reducible first | exact HB.out | apply below_alloc | apply pw_below_drewN | apply below_drew1) | exact HB.out)) hb); clear HB; have HO501 := n0_; have HB := n1_; clear n0_ n1_; (try clear hb); (try clear hb2); (try clear hk); (try clear hi); (try clear ho0); have q13 : ((ji5) : Int) ≤ ((l1.length : Int) : Int) := of_decide_eq_true (by first | (with_reducible assumption) | assumption); obtain ⟨i013, hi013, _, hsz13, _⟩ := info_parts info69; have hroom13 : l1.length ≤ c1 := HC1.out; have hC13 : Kd.C k69 _ A1 l1.length l1 := HR1.out; have hcut13 := cut_to (P := Try.prog) 60 69 .i64 Try.underlying60 hi013 A1 l1.length c1 (ji5) (of_decide_eq_true (by first | (with_reducible assumption) | assumption)) q13 hroom13; have hr13 := Kd.C_take (m := ((ji5) : Int).toNat) hC13 (by omega); have hy13 : y502.length = ((ji5) : Int).toNat := (by rw [Ny502.out, List.length_take]; omega); rw [← Ny502.out] at hr13; rw [← hy13] at hcut13; have HR505 := Aside0.mk hr13; have HC505 := Aside0.mk (show y502.length ≤ c1 from by omega); clear hr13 hC13 hroom13 hi013 hsz13; have KY13 := Aside0.mk hy13; clear hy13; replace q13 := eq_true q13; obtain ⟨Ao14, co14, eo14⟩ := Kd.N_slice HO501.out; subst eo14) | ((with_reducible refine gate_callee (f := 29) rfl ?_); refine goesL_ (some 14) rfl rfl Try.func29 (by kernel_rfl) rfl #[.slice Ao14 t499.length co14] rfl (by (try simp only [List.map_toArray, List.map_cons, List.map_nil]); first | done | rfl | (simp only [List.length_drop, List.length_take]; rfl)) ?_; (with_reducible refine (catchmentref11_Row.calls k _ _ t499 true _ ?side1 ?side2 A8.out).mono ?_); (case side1 => repeat (first | exact (Kd.N_reads' HO501.out).2.2 | (with_reducible refine Kd.C_alloc ?_ _) | (with_reducible refine Kd.C_drewN ?_ _) | (with_reducible refine Kd.C_drew ?_))); (case side2 => exact (Kd.N_reads' HO501.out).2.1); rintro e w15 ⟨rfl, hb⟩; refine ⟨_, rfl, ?_⟩; have n0_ := Aside0.mk (Kd.N_below (by (with_reducible repeat (first | apply Kd.N_alloc | apply Kd.N_drewN | apply Kd.N_drew)); exact HO501.out) hb); have n1_ := Aside0.mk (below_step (by repeat (first | (with_reducible first | exact HB.out | apply below_alloc | apply pw_below_drewN | apply below_drew1) | exact HB.out)) hb); clear HO501; clear HB; have HO501 := n0_; have HB := n1_; clear n0_ n1_; (try clear hb); (try clear hb2); (try clear hk); (try clear hi)) | ((with_reducible refine gate_callee (f := 34) rfl ?_); refine goesL_ (some 20) rfl rfl Try.func34 (by kernel_rfl) rfl #[.slice Ao14 t499.length co14, .slice A1 y502.length c1, .int .i64 a2] rfl (by (try simp only [List.map_toArray, List.map_cons, List.map_nil]); first | done | rfl | (simp only [List.length_drop, List.length_take]; rfl)) ?_; (with_reducible refine (leaf_Fold.calls k _ _ t499 _ _ y502 a2 t508 _ ?side1 ?side2 ?side3 ?side4 A10.out).mono ?_); (case side1 => repeat (first | exact (Kd.N_reads' HO501.out).2.2 | (with_reducible refine Kd.C_alloc ?_ _) | (with_reducible refine Kd.C_drewN ?_ _) | (with_reducible refine Kd.C_drew ?_))); (case side2 => exact (Kd.N_reads' HO501.out).2.1); (case side3 => repeat (first | exact (Kd.C_below HR505.out HB.out) | (with_reducible refine Kd.C_alloc ?_ _) | (with_reducible refine Kd.C_drewN ?_ _) | (with_reducible refine Kd.C_drew ?_))); (case side4 => exact HC505.out); rintro e w16 ⟨v509, rfl, ho0, hb⟩; refine ⟨_, rfl, ?_⟩; have n0_ := Aside0.mk (Kd.N_elder' (by (with_reducible repeat (first | apply Kd.N_alloc | apply Kd.N_drewN | apply Kd.N_drew)); exact HO501.out) (by first | exact Kd.R_base ho0 | exact Kd.N_base ho0) hb); have n1_ := Aside0.mk (Kd.N_lower (Kd.N_mono (ok' := fun k_ => some k_ ≠ (.slice Ao14 t499.length co14 : Value).ownBlock) (Kd.R_N (Kd.R_bound ho0)) (fun k_ hk_ => (Kd.fresh' (Kd.N_lt (by (with_reducible repeat (first | apply Kd.N_alloc | apply Kd.N_drewN | apply Kd.N_drew)); exact HO501.out)) k_ hk_.2.1))) (below_size (by repeat (first | (with_reducible first | exact HB.out | apply below_alloc | apply pw_below_drewN | apply below_drew1) | exact HB.out)))); have n2_ := Aside0.mk (below_step (by repeat (first | (with_reducible first | exact HB.out | apply below_alloc | apply pw_below_drewN | apply below_drew1) | exact HB.out)) hb); clear HO501; clear HB; have HO501 := n0_; have HO510 := n1_; have HB := n2_; clear n0_ n1_ n2_; (try clear hb); (try clear hb2); (try clear hk); (try clear hi); (try clear ho0)))
        (try simp only [Act.put, List.setIfInBounds_toArray, List.set_cons_zero, List.set_cons_succ])
        go_cut [8] (fun v8 wc => ∃ (kq : Nat) (x8_10 : Bool), v8 = .bool x8_10 ∧ Aside0 (catchmentlaw11_LeafKeeps.j0 kq t499 y502 a2 t508 x8_10 = some r) ∧ Aside0 (kq ≤ k) ∧ Aside0 (Kd.N (Kd.slice 85 k85) 74 wc w.heap.size (fun k_ => some k_ ≠ (v509 : Value).ownBlock) (.slice Ao14 t499.length co14) t499) ∧ Aside0 (Kd.N (Kd.slice 85 k85) 74 wc w.heap.size (fun k_ => some k_ ≠ ((.slice Ao14 t499.length co14) : Value).ownBlock) v509 t508) ∧ Aside0 (Below w.heap.size w wc))
        case first =>
          have H := HC11.out
          clear HC11
          by_cases c17 : a2 ≥ 2
          · rw [if_pos c17] at H
            have c17b0 : decide (2 ≤ a2) = true := decide_eq_true c17
            clear c17
            (first | rw [c17b0] | (simp only [i64_w, i32_w]; rw [c17b0]) | skip)
            replace H := Option.bind_eq_some_iff.mp H
            obtain ⟨t511, A180, H⟩ := H
            replace H : (catchmentlaw11_LeafKeeps.j0 k t499 y502 a2 t508 t511) = some r := H
            have A18 := Aside0.mk A180
            clear A180
            have H' := Aside0.mk H
            clear H
            go_wp2_with (first | (go_at_call 36; (with_reducible refine (catchmentref11_Right.calls k _ _ t499 a2 t511 _ ?side1 ?side2 A18.out).mono ?_); (case side1 => repeat (first | exact (Kd.N_reads' HO501.out).2.2 | (with_reducible refine Kd.C_alloc ?_ _) | (with_reducible refine Kd.C_drewN ?_ _) | (with_reducible refine Kd.C_drew ?_))); (case side2 => exact (Kd.N_reads' HO501.out).2.1); rintro e w19 ⟨rfl, hb⟩; have n0_ := Aside0.mk (Kd.N_below (by (with_reducible repeat (first | apply Kd.N_alloc | apply Kd.N_drewN | apply Kd.N_drew)); exact HO501.out) hb); have n1_ := Aside0.mk (Kd.N_below (by (with_reducible repeat (first | apply Kd.N_alloc | apply Kd.N_drewN | apply Kd.N_drew)); exact HO510.out) hb); have n2_ := Aside0.mk (below_step (by repeat (first | (with_reducible first | exact HB.out | apply below_alloc | apply pw_below_drewN | apply below_drew1) | exact HB.out)) hb); clear HO501; clear HO510; clear HB; have HO501 := n0_; have HO510 := n1_; have HB := n2_; clear n0_ n1_ n2_; (try clear hb); (try clear hb2); (try clear hk); (try clear hi)))
            go_meet
            case rel => exact ⟨_, (t511), (by first | rfl | (simp; done) | (simp [*]; done)), H', ⟨by first | omega | exact Nat.le_refl _⟩, ⟨by (with_reducible repeat (first | apply Kd.N_alloc | apply Kd.N_drewN | apply Kd.N_drew)); exact Kd.N_mono HO501.out (fun _ hk => hk.2)⟩, ⟨by (with_reducible repeat (first | apply Kd.N_alloc | apply Kd.N_drewN | apply Kd.N_drew)); exact HO510.out⟩, ⟨by repeat (first | (with_reducible first | exact HB.out | apply below_alloc | apply pw_below_drewN | apply below_drew1) | exact HB.out)⟩⟩
          · rw [if_neg c17] at H
            have c17b0 : decide (2 ≤ a2) = false := decide_eq_false c17
            clear c17
            (first | rw [c17b0] | (simp only [i64_w, i32_w]; rw [c17b0]) | skip)
            have H' := Aside0.mk H
            clear H
            go_wp2
            go_meet
            case rel => exact ⟨_, (false), (by first | rfl | (simp; done) | (simp [*]; done)), H', ⟨by first | omega | exact Nat.le_refl _⟩, ⟨by (with_reducible repeat (first | apply Kd.N_alloc | apply Kd.N_drewN | apply Kd.N_drew)); exact Kd.N_mono HO501.out (fun _ hk => hk.2)⟩, ⟨by (with_reducible repeat (first | apply Kd.N_alloc | apply Kd.N_drewN | apply Kd.N_drew)); exact HO510.out⟩, ⟨by repeat (first | (with_reducible first | exact HB.out | apply below_alloc | apply pw_below_drewN | apply below_drew1) | exact HB.out)⟩⟩
        case rest =>
          clear HC11
          try clear c1
          try clear q1
          try clear c2
          try clear p2
          try clear c3
          try clear c6
          try clear c6b0
          try clear c6b1
          try clear c7
          try clear c7b0
          try clear c7b1
          try clear c8
          try clear c9
          try clear q13
          try clear c17
          try clear c17b0
          try clear q13
          obtain ⟨kq, x8_10, rfl, HA, HJ10, HO_0, HO_7, HB⟩ := hcut
          cases kq with
          | zero => exact absurd HA.out (by simp [catchmentlaw11_LeafKeeps.j0])
          | succ kj10 =>
            have H := HA.out
            clear HA
            simp only [catchmentlaw11_LeafKeeps.j0] at H
            replace H := Option.bind_eq_some_iff.mp H
            obtain ⟨t512, A200, H⟩ := H
            replace H : (if t512 = true then ((leaf_Entries.f t508).bind fun t513 => ((catchmentref11_Entries.f kj10 t499).bind fun t516 => ((catchmentref05_Entries.f kj10 y502 t516 (⟨#[]⟩ : ByteArray) (⟨#[]⟩ : ByteArray)).bind fun t519 => ((catchmentref05_Same.f kj10 t513 t519).bind fun t522 => (if t522 = true then (if x8_10 = true then ((leaf_Right.f kj10 t508 a2).bind fun t523 => (if t523 = true then ((leaf_Right.f kj10 t508 1000).bind fun t524 => (some t524)) else (none))) else ((leaf_Right.f kj10 t508 1000).bind fun t525 => (some t525))) else (none)))))) else (none)) = some r := H
            have A20 := Aside0.mk A200
            clear A200
            by_cases c21 : t512 = true
            · subst c21
              have H1 : ((leaf_Entries.f t508).bind fun t513 => ((catchmentref11_Entries.f kj10 t499).bind fun t516 => ((catchmentref05_Entries.f kj10 y502 t516 (⟨#[]⟩ : ByteArray) (⟨#[]⟩ : ByteArray)).bind fun t519 => ((catchmentref05_Same.f kj10 t513 t519).bind fun t522 => (if t522 = true then (if x8_10 = true then ((leaf_Right.f kj10 t508 a2).bind fun t523 => (if t523 = true then ((leaf_Right.f kj10 t508 1000).bind fun t524 => (some t524)) else (none))) else ((leaf_Right.f kj10 t508 1000).bind fun t525 => (some t525))) else (none)))))) = some r := by rw [if_pos rfl] at H; exact H
              clear H
              have H := H1
              clear H1
              replace H := Option.bind_eq_some_iff.mp H
              obtain ⟨t513, A220, H⟩ := H
              replace H : ((catchmentref11_Entries.f kj10 t499).bind fun t516 => ((catchmentref05_Entries.f kj10 y502 t516 (⟨#[]⟩ : ByteArray) (⟨#[]⟩ : ByteArray)).bind fun t519 => ((catchmentref05_Same.f kj10 t513 t519).bind fun t522 => (if t522 = true then (if x8_10 = true then ((leaf_Right.f kj10 t508 a2).bind fun t523 => (if t523 = true then ((leaf_Right.f kj10 t508 1000).bind fun t524 => (some t524)) else (none))) else ((leaf_Right.f kj10 t508 1000).bind fun t525 => (some t525))) else (none))))) = some r := H
              have A22 := Aside0.mk A220
              clear A220
              replace H := Option.bind_eq_some_iff.mp H
              obtain ⟨t516, A230, H⟩ := H
              replace H : ((catchmentref05_Entries.f kj10 y502 t516 (⟨#[]⟩ : ByteArray) (⟨#[]⟩ : ByteArray)).bind fun t519 => ((catchmentref05_Same.f kj10 t513 t519).bind fun t522 => (if t522 = true then (if x8_10 = true then ((leaf_Right.f kj10 t508 a2).bind fun t523 => (if t523 = true then ((leaf_Right.f kj10 t508 1000).bind fun t524 => (some t524)) else (none))) else ((leaf_Right.f kj10 t508 1000).bind fun t525 => (some t525))) else (none)))) = some r := H
              have A23 := Aside0.mk A230
              clear A230
              replace H := Option.bind_eq_some_iff.mp H
              obtain ⟨t519, A240, H⟩ := H
              replace H : ((catchmentref05_Same.f kj10 t513 t519).bind fun t522 => (if t522 = true then (if x8_10 = true then ((leaf_Right.f kj10 t508 a2).bind fun t523 => (if t523 = true then ((leaf_Right.f kj10 t508 1000).bind fun t524 => (some t524)) else (none))) else ((leaf_Right.f kj10 t508 1000).bind fun t525 => (some t525))) else (none))) = some r := H
              have A24 := Aside0.mk A240
              clear A240
              replace H := Option.bind_eq_some_iff.mp H
              obtain ⟨t522, A250, H⟩ := H
              replace H : (if t522 = true then (if x8_10 = true then ((leaf_Right.f kj10 t508 a2).bind fun t523 => (if t523 = true then ((leaf_Right.f kj10 t508 1000).bind fun t524 => (some t524)) else (none))) else ((leaf_Right.f kj10 t508 1000).bind fun t525 => (some t525))) else (none)) = some r := H
              have A25 := Aside0.mk A250
              clear A250
              by_cases c26 : t522 = true
              · subst c26
                have H1 : (if x8_10 = true then ((leaf_Right.f kj10 t508 a2).bind fun t523 => (if t523 = true then ((leaf_Right.f kj10 t508 1000).bind fun t524 => (some t524)) else (none))) else ((leaf_Right.f kj10 t508 1000).bind fun t525 => (some t525))) = some r := by rw [if_pos rfl] at H; exact H
                clear H
                have H := H1
                clear H1
                by_cases c27 : x8_10 = true
                · subst c27
                  have H1 : ((leaf_Right.f kj10 t508 a2).bind fun t523 => (if t523 = true then ((leaf_Right.f kj10 t508 1000).bind fun t524 => (some t524)) else (none))) = some r := by rw [if_pos rfl] at H; exact H
                  clear H
                  have H := H1
                  clear H1
                  replace H := Option.bind_eq_some_iff.mp H
                  obtain ⟨t523, A280, H⟩ := H
                  replace H : (if t523 = true then ((leaf_Right.f kj10 t508 1000).bind fun t524 => (some t524)) else (none)) = some r := H
                  have A28 := Aside0.mk A280
                  clear A280
                  by_cases c29 : t523 = true
                  · subst c29
                    have H1 : ((leaf_Right.f kj10 t508 1000).bind fun t524 => (some t524)) = some r := by rw [if_pos rfl] at H; exact H
                    clear H
                    have H := H1
                    clear H1
                    replace H := Option.bind_eq_some_iff.mp H
                    obtain ⟨t524, A300, H⟩ := H
                    replace H : (some t524) = some r := H
                    have A30 := Aside0.mk A300
                    clear A300
                    obtain rfl := Option.some.inj H
                    go_wp2_with (first | ((with_reducible refine gate_callee (f := 30) rfl ?_); refine goesL_ (some 28) rfl rfl Try.func30 (by kernel_rfl) rfl #[] rfl (by (try simp only [List.map_toArray, List.map_cons, List.map_nil]); first | done | rfl | (simp only [List.length_drop, List.length_take]; rfl)) ?_; (with_reducible refine (catchmentlaw11_live.calls kj10  true _ A20.out).mono ?_); rintro e w31 ⟨rfl, hb⟩; refine ⟨_, rfl, ?_⟩; have n0_ := Aside0.mk (Kd.N_below (by (with_reducible repeat (first | apply Kd.N_alloc | apply Kd.N_drewN | apply Kd.N_drew)); exact HO_0.out) hb); have n1_ := Aside0.mk (Kd.N_below (by (with_reducible repeat (first | apply Kd.N_alloc | apply Kd.N_drewN | apply Kd.N_drew)); exact HO_7.out) hb); have n2_ := Aside0.mk (below_step (by repeat (first | (with_reducible first | exact HB.out | apply below_alloc | apply pw_below_drewN | apply below_drew1) | exact HB.out)) hb); clear HO_0; clear HO_7; clear HB; have HO_0 := n0_; have HO_7 := n1_; have HB := n2_; clear n0_ n1_ n2_; (try clear hb); (try clear hb2); (try clear hk); (try clear hi); obtain ⟨Ao32, co32, eo32⟩ := Kd.N_slice HO_7.out; subst eo32) | (go_at_call 38; (with_reducible refine (leaf_Entries.calls _ _ t508 t513 _ ?side1 ?side2 A22.out).mono ?_); (case side1 => repeat (first | exact (Kd.N_reads' HO_7.out).2.2 | (with_reducible refine Kd.C_alloc ?_ _) | (with_reducible refine Kd.C_drewN ?_ _) | (with_reducible refine Kd.C_drew ?_))); (case side2 => exact (Kd.N_reads' HO_7.out).2.1); rintro e w33 ⟨v514, rfl, ho0, hb⟩; have n0_ := Aside0.mk (Kd.N_elder' (by (with_reducible repeat (first | apply Kd.N_alloc | apply Kd.N_drewN | apply Kd.N_drew)); exact HO_0.out) (Kd.R_base ho0) hb); have n1_ := Aside0.mk (Kd.N_elder' (by (with_reducible repeat (first | apply Kd.N_alloc | apply Kd.N_drewN | apply Kd.N_drew)); exact HO_7.out) (Kd.R_base ho0) hb); have n2_ := Aside0.mk (Kd.R_lower ho0 (below_size (by repeat (first | (with_reducible first | exact HB.out | apply below_alloc | apply pw_below_drewN | apply below_drew1) | exact HB.out)))); have n3_ := Aside0.mk (below_step (by repeat (first | (with_reducible first | exact HB.out | apply below_alloc | apply pw_below_drewN | apply below_drew1) | exact HB.out)) hb); clear HO_0; clear HO_7; clear HB; have HO_0 := n0_; have HO_7 := n1_; have HO515 := n2_; have HB := n3_; clear n0_ n1_ n2_ n3_; (try clear hb); (try clear hb2); (try clear hk); (try clear hi); (try clear ho0)) | (go_at_call 40; (with_reducible refine (catchmentref11_Entries.calls kj10 _ _ t499 t516 _ ?side1 ?side2 A23.out).mono ?_); (case side1 => repeat (first | exact (Kd.N_reads' HO_0.out).2.2 | (with_reducible refine Kd.C_alloc ?_ _) | (with_reducible refine Kd.C_drewN ?_ _) | (with_reducible refine Kd.C_drew ?_))); (case side2 => exact (Kd.N_reads' HO_0.out).2.1); rintro e w34 ⟨v517, rfl, ho0, hb⟩; have n0_ := Aside0.mk (Kd.N_elder' (by (with_reducible repeat (first | apply Kd.N_alloc | apply Kd.N_drewN | apply Kd.N_drew)); exact HO_0.out) (Kd.R_base ho0) hb); have n1_ := Aside0.mk (Kd.N_elder' (by (with_reducible repeat (first | apply Kd.N_alloc | apply Kd.N_drewN | apply Kd.N_drew)); exact HO_7.out) (Kd.R_base ho0) hb); have n2_ := Aside0.mk (Kd.R_elder' (by (with_reducible repeat (first | apply Kd.R_alloc | apply Kd.R_drewN | apply Kd.R_drew)); exact HO515.out) (Kd.R_base ho0) hb); have n3_ := Aside0.mk (Kd.R_lower (Kd.R_new' ho0 (Kd.R_lt (by (with_reducible repeat (first | apply Kd.R_alloc | apply Kd.R_drewN | apply Kd.R_drew)); exact HO515.out))) (below_size (by repeat (first | (with_reducible first | exact HB.out | apply below_alloc | apply pw_below_drewN | apply below_drew1) | exact HB.out)))); have n4_ := Aside0.mk (below_step (by repeat (first | (with_reducible first | exact HB.out | apply below_alloc | apply pw_below_drewN | apply below_drew1) | exact HB.out)) hb); clear HO_0; clear HO_7; clear HO515; clear HB; have HO_0 := n0_; have HO_7 := n1_; have HO515 := n2_; have HO518 := n3_; have HB := n4_; clear n0_ n1_ n2_ n3_ n4_; (try clear hb); (try clear hb2); (try clear hk); (try clear hi); (try clear ho0); obtain ⟨Ao35, co35, eo35⟩ := Kd.R_slice HO518.out; subst eo35) | (go_at_call 39; (with_reducible refine (catchmentref05_Entries.calls kj10 _ _ y502 _ _ t516 (⟨#[]⟩ : ByteArray) (⟨#[]⟩ : ByteArray) t519 _ ?side1 ?side2 ?side3 ?side4 A24.out).mono ?_); (case side1 => repeat (first | exact (Kd.C_below HR505.out HB.out) | (with_reducible refine Kd.C_alloc ?_ _) | (with_reducible refine Kd.C_drewN ?_ _) | (with_reducible refine Kd.C_drew ?_))); (case side2 => exact HC505.out); (case side3 => repeat (first | exact (Kd.R_reads' HO518.out).2.2 | (with_reducible refine Kd.C_alloc ?_ _) | (with_reducible refine Kd.C_drewN ?_ _) | (with_reducible refine Kd.C_drew ?_))); (case side4 => exact (Kd.R_reads' HO518.out).2.1); rintro e w36 ⟨v520, rfl, ho0, hb⟩; have n0_ := Aside0.mk (Kd.N_elder' (by (with_reducible repeat (first | apply Kd.N_alloc | apply Kd.N_drewN | apply Kd.N_drew)); exact HO_0.out) (Kd.R_base ho0) hb); have n1_ := Aside0.mk (Kd.N_elder' (by (with_reducible repeat (first | apply Kd.N_alloc | apply Kd.N_drewN | apply Kd.N_drew)); exact HO_7.out) (Kd.R_base ho0) hb); have n2_ := Aside0.mk (Kd.R_elder' (by (with_reducible repeat (first | apply Kd.R_alloc | apply Kd.R_drewN | apply Kd.R_drew)); exact HO515.out) (Kd.R_base ho0) hb); have n3_ := Aside0.mk (Kd.R_elder' (by (with_reducible repeat (first | apply Kd.R_alloc | apply Kd.R_drewN | apply Kd.R_drew)); exact HO518.out) (Kd.R_base ho0) hb); have n4_ := Aside0.mk (Kd.R_lower (Kd.R_new' (Kd.R_new' ho0 (Kd.R_lt (by (with_reducible repeat (first | apply Kd.R_alloc | apply Kd.R_drewN | apply Kd.R_drew)); exact HO515.out))) (Kd.R_lt (by (with_reducible repeat (first | apply Kd.R_alloc | apply Kd.R_drewN | apply Kd.R_drew)); exact HO518.out))) (below_size (by repeat (first | (with_reducible first | exact HB.out | apply below_alloc | apply pw_below_drewN | apply below_drew1) | exact HB.out)))); have n5_ := Aside0.mk (below_step (by repeat (first | (with_reducible first | exact HB.out | apply below_alloc | apply pw_below_drewN | apply below_drew1) | exact HB.out)) hb); clear HO_0; clear HO_7; clear HO515; clear HO518; clear HB; have HO_0 := n0_; have HO_7 := n1_; have HO515 := n2_; have HO518 := n3_; have HO521 := n4_; have HB := n5_; clear n0_ n1_ n2_ n3_ n4_ n5_; (try clear hb); (try clear hb2); (try clear hk); (try clear hi); (try clear ho0); obtain ⟨Ao37, co37, eo37⟩ := Kd.R_slice HO515.out; subst eo37; obtain ⟨Ao38, co38, eo38⟩ := Kd.R_slice HO521.out; subst eo38) | (go_at_call 37; (with_reducible refine (catchmentref05_Same.calls kj10 _ _ t513 _ _ t519 true _ ?side1 ?side2 ?side3 ?side4 A25.out).mono ?_); (case side1 => repeat (first | exact (Kd.R_reads' HO515.out).2.2 | (with_reducible refine Kd.C_alloc ?_ _) | (with_reducible refine Kd.C_drewN ?_ _) | (with_reducible refine Kd.C_drew ?_))); (case side2 => exact (Kd.R_reads' HO515.out).2.1); (case side3 => repeat (first | exact (Kd.R_reads' HO521.out).2.2 | (with_reducible refine Kd.C_alloc ?_ _) | (with_reducible refine Kd.C_drewN ?_ _) | (with_reducible refine Kd.C_drew ?_))); (case side4 => exact (Kd.R_reads' HO521.out).2.1); rintro e w' ⟨rfl, ⟨nd, rfl⟩⟩) | (go_at_call 41; (with_reducible refine (leaf_Right.calls kj10 _ _ t508 a2 true _ ?side1 ?side2 A28.out).mono ?_); (case side1 => repeat (first | exact (Kd.N_reads' HO_7.out).2.2 | (with_reducible refine Kd.C_alloc ?_ _) | (with_reducible refine Kd.C_drewN ?_ _) | (with_reducible refine Kd.C_drew ?_))); (case side2 => exact (Kd.N_reads' HO_7.out).2.1); rintro e w39 ⟨rfl, hb⟩; have n0_ := Aside0.mk (Kd.N_below (by (with_reducible repeat (first | apply Kd.N_alloc | apply Kd.N_drewN | apply Kd.N_drew)); exact HO_0.out) hb); have n1_ := Aside0.mk (Kd.N_below (by (with_reducible repeat (first | apply Kd.N_alloc | apply Kd.N_drewN | apply Kd.N_drew)); exact HO_7.out) hb); have n2_ := Aside0.mk (Kd.R_below (by (with_reducible repeat (first | apply Kd.R_alloc | apply Kd.R_drewN | apply Kd.R_drew)); exact HO515.out) hb); have n3_ := Aside0.mk (Kd.R_below (by (with_reducible repeat (first | apply Kd.R_alloc | apply Kd.R_drewN | apply Kd.R_drew)); exact HO518.out) hb); have n4_ := Aside0.mk (Kd.R_below (by (with_reducible repeat (first | apply Kd.R_alloc | apply Kd.R_drewN | apply Kd.R_drew)); exact HO521.out) hb); have n5_ := Aside0.mk (below_step (by repeat (first | (with_reducible first | exact HB.out | apply below_alloc | apply pw_below_drewN | apply below_drew1) | exact HB.out)) hb); clear HO_0; clear HO_7; clear HO515; clear HO518; clear HO521; clear HB; have HO_0 := n0_; have HO_7 := n1_; have HO515 := n2_; have HO518 := n3_; have HO521 := n4_; have HB := n5_; clear n0_ n1_ n2_ n3_ n4_ n5_; (try clear hb); (try clear hb2); (try clear hk); (try clear hi)) | (go_at_call 41; (with_reducible refine (leaf_Right.calls kj10 _ _ t508 1000 t524 _ ?side1 ?side2 A30.out).mono ?_); (case side1 => repeat (first | exact (Kd.N_reads' HO_7.out).2.2 | (with_reducible refine Kd.C_alloc ?_ _) | (with_reducible refine Kd.C_drewN ?_ _) | (with_reducible refine Kd.C_drew ?_))); (case side2 => exact (Kd.N_reads' HO_7.out).2.1); rintro e w40 ⟨rfl, hb⟩; have n0_ := Aside0.mk (Kd.N_below (by (with_reducible repeat (first | apply Kd.N_alloc | apply Kd.N_drewN | apply Kd.N_drew)); exact HO_0.out) hb); have n1_ := Aside0.mk (Kd.N_below (by (with_reducible repeat (first | apply Kd.N_alloc | apply Kd.N_drewN | apply Kd.N_drew)); exact HO_7.out) hb); have n2_ := Aside0.mk (Kd.R_below (by (with_reducible repeat (first | apply Kd.R_alloc | apply Kd.R_drewN | apply Kd.R_drew)); exact HO515.out) hb); have n3_ := Aside0.mk (Kd.R_below (by (with_reducible repeat (first | apply Kd.R_alloc | apply Kd.R_drewN | apply Kd.R_drew)); exact HO518.out) hb); have n4_ := Aside0.mk (Kd.R_below (by (with_reducible repeat (first | apply Kd.R_alloc | apply Kd.R_drewN | apply Kd.R_drew)); exact HO521.out) hb); have n5_ := Aside0.mk (below_step (by repeat (first | (with_reducible first | exact HB.out | apply below_alloc | apply pw_below_drewN | apply below_drew1) | exact HB.out)) hb); clear HO_0; clear HO_7; clear HO515; clear HO518; clear HO521; clear HB; have HO_0 := n0_; have HO_7 := n1_; have HO515 := n2_; have HO518 := n3_; have HO521 := n4_; have HB := n5_; clear n0_ n1_ n2_ n3_ n4_ n5_; (try clear hb); (try clear hb2); (try clear hk); (try clear hi)))
                    go_ret
                    exact ⟨by first | rfl | (simp [errW_none, errW_some] <;> rfl) | (simp only [← hji5]; first | rfl | (simp [errW_none, errW_some] <;> rfl)) | (simp [*, errW_none, errW_some] <;> rfl), by repeat (first | (with_reducible first | exact HB.out | apply below_alloc | apply pw_below_drewN | apply below_drew1) | exact HB.out)⟩
                  · replace c29 := Bool.eq_false_iff.mpr c29
                    subst c29
                    have H1 : (none) = some r := by rw [if_neg (show ¬ (false = true) by decide)] at H; exact H
                    clear H
                    have H := H1
                    clear H1
                    exact absurd H (by simp)
                · replace c27 := Bool.eq_false_iff.mpr c27
                  subst c27
                  have H1 : ((leaf_Right.f kj10 t508 1000).bind fun t525 => (some t525)) = some r := by rw [if_neg (show ¬ (false = true) by decide)] at H; exact H
                  clear H
                  have H := H1
                  clear H1
                  replace H := Option.bind_eq_some_iff.mp H
                  obtain ⟨t525, A410, H⟩ := H
                  replace H : (some t525) = some r := H
                  have A41 := Aside0.mk A410
                  clear A410
                  obtain rfl := Option.some.inj H
                  go_wp2_with (first | ((with_reducible refine gate_callee (f := 30) rfl ?_); refine goesL_ (some 28) rfl rfl Try.func30 (by kernel_rfl) rfl #[] rfl (by (try simp only [List.map_toArray, List.map_cons, List.map_nil]); first | done | rfl | (simp only [List.length_drop, List.length_take]; rfl)) ?_; (with_reducible refine (catchmentlaw11_live.calls kj10  true _ A20.out).mono ?_); rintro e w42 ⟨rfl, hb⟩; refine ⟨_, rfl, ?_⟩; have n0_ := Aside0.mk (Kd.N_below (by (with_reducible repeat (first | apply Kd.N_alloc | apply Kd.N_drewN | apply Kd.N_drew)); exact HO_0.out) hb); have n1_ := Aside0.mk (Kd.N_below (by (with_reducible repeat (first | apply Kd.N_alloc | apply Kd.N_drewN | apply Kd.N_drew)); exact HO_7.out) hb); have n2_ := Aside0.mk (below_step (by repeat (first | (with_reducible first | exact HB.out | apply below_alloc | apply pw_below_drewN | apply below_drew1) | exact HB.out)) hb); clear HO_0; clear HO_7; clear HB; have HO_0 := n0_; have HO_7 := n1_; have HB := n2_; clear n0_ n1_ n2_; (try clear hb); (try clear hb2); (try clear hk); (try clear hi); obtain ⟨Ao43, co43, eo43⟩ := Kd.N_slice HO_7.out; subst eo43) | (go_at_call 38; (with_reducible refine (leaf_Entries.calls _ _ t508 t513 _ ?side1 ?side2 A22.out).mono ?_); (case side1 => repeat (first | exact (Kd.N_reads' HO_7.out).2.2 | (with_reducible refine Kd.C_alloc ?_ _) | (with_reducible refine Kd.C_drewN ?_ _) | (with_reducible refine Kd.C_drew ?_))); (case side2 => exact (Kd.N_reads' HO_7.out).2.1); rintro e w44 ⟨v514, rfl, ho0, hb⟩; have n0_ := Aside0.mk (Kd.N_elder' (by (with_reducible repeat (first | apply Kd.N_alloc | apply Kd.N_drewN | apply Kd.N_drew)); exact HO_0.out) (Kd.R_base ho0) hb); have n1_ := Aside0.mk (Kd.N_elder' (by (with_reducible repeat (first | apply Kd.N_alloc | apply Kd.N_drewN | apply Kd.N_drew)); exact HO_7.out) (Kd.R_base ho0) hb); have n2_ := Aside0.mk (Kd.R_lower ho0 (below_size (by repeat (first | (with_reducible first | exact HB.out | apply below_alloc | apply pw_below_drewN | apply below_drew1) | exact HB.out)))); have n3_ := Aside0.mk (below_step (by repeat (first | (with_reducible first | exact HB.out | apply below_alloc | apply pw_below_drewN | apply below_drew1) | exact HB.out)) hb); clear HO_0; clear HO_7; clear HB; have HO_0 := n0_; have HO_7 := n1_; have HO515 := n2_; have HB := n3_; clear n0_ n1_ n2_ n3_; (try clear hb); (try clear hb2); (try clear hk); (try clear hi); (try clear ho0)) | (go_at_call 40; (with_reducible refine (catchmentref11_Entries.calls kj10 _ _ t499 t516 _ ?side1 ?side2 A23.out).mono ?_); (case side1 => repeat (first | exact (Kd.N_reads' HO_0.out).2.2 | (with_reducible refine Kd.C_alloc ?_ _) | (with_reducible refine Kd.C_drewN ?_ _) | (with_reducible refine Kd.C_drew ?_))); (case side2 => exact (Kd.N_reads' HO_0.out).2.1); rintro e w45 ⟨v517, rfl, ho0, hb⟩; have n0_ := Aside0.mk (Kd.N_elder' (by (with_reducible repeat (first | apply Kd.N_alloc | apply Kd.N_drewN | apply Kd.N_drew)); exact HO_0.out) (Kd.R_base ho0) hb); have n1_ := Aside0.mk (Kd.N_elder' (by (with_reducible repeat (first | apply Kd.N_alloc | apply Kd.N_drewN | apply Kd.N_drew)); exact HO_7.out) (Kd.R_base ho0) hb); have n2_ := Aside0.mk (Kd.R_elder' (by (with_reducible repeat (first | apply Kd.R_alloc | apply Kd.R_drewN | apply Kd.R_drew)); exact HO515.out) (Kd.R_base ho0) hb); have n3_ := Aside0.mk (Kd.R_lower (Kd.R_new' ho0 (Kd.R_lt (by (with_reducible repeat (first | apply Kd.R_alloc | apply Kd.R_drewN | apply Kd.R_drew)); exact HO515.out))) (below_size (by repeat (first | (with_reducible first | exact HB.out | apply below_alloc | apply pw_below_drewN | apply below_drew1) | exact HB.out)))); have n4_ := Aside0.mk (below_step (by repeat (first | (with_reducible first | exact HB.out | apply below_alloc | apply pw_below_drewN | apply below_drew1) | exact HB.out)) hb); clear HO_0; clear HO_7; clear HO515; clear HB; have HO_0 := n0_; have HO_7 := n1_; have HO515 := n2_; have HO518 := n3_; have HB := n4_; clear n0_ n1_ n2_ n3_ n4_; (try clear hb); (try clear hb2); (try clear hk); (try clear hi); (try clear ho0); obtain ⟨Ao46, co46, eo46⟩ := Kd.R_slice HO518.out; subst eo46) | (go_at_call 39; (with_reducible refine (catchmentref05_Entries.calls kj10 _ _ y502 _ _ t516 (⟨#[]⟩ : ByteArray) (⟨#[]⟩ : ByteArray) t519 _ ?side1 ?side2 ?side3 ?side4 A24.out).mono ?_); (case side1 => repeat (first | exact (Kd.C_below HR505.out HB.out) | (with_reducible refine Kd.C_alloc ?_ _) | (with_reducible refine Kd.C_drewN ?_ _) | (with_reducible refine Kd.C_drew ?_))); (case side2 => exact HC505.out); (case side3 => repeat (first | exact (Kd.R_reads' HO518.out).2.2 | (with_reducible refine Kd.C_alloc ?_ _) | (with_reducible refine Kd.C_drewN ?_ _) | (with_reducible refine Kd.C_drew ?_))); (case side4 => exact (Kd.R_reads' HO518.out).2.1); rintro e w47 ⟨v520, rfl, ho0, hb⟩; have n0_ := Aside0.mk (Kd.N_elder' (by (with_reducible repeat (first | apply Kd.N_alloc | apply Kd.N_drewN | apply Kd.N_drew)); exact HO_0.out) (Kd.R_base ho0) hb); have n1_ := Aside0.mk (Kd.N_elder' (by (with_reducible repeat (first | apply Kd.N_alloc | apply Kd.N_drewN | apply Kd.N_drew)); exact HO_7.out) (Kd.R_base ho0) hb); have n2_ := Aside0.mk (Kd.R_elder' (by (with_reducible repeat (first | apply Kd.R_alloc | apply Kd.R_drewN | apply Kd.R_drew)); exact HO515.out) (Kd.R_base ho0) hb); have n3_ := Aside0.mk (Kd.R_elder' (by (with_reducible repeat (first | apply Kd.R_alloc | apply Kd.R_drewN | apply Kd.R_drew)); exact HO518.out) (Kd.R_base ho0) hb); have n4_ := Aside0.mk (Kd.R_lower (Kd.R_new' (Kd.R_new' ho0 (Kd.R_lt (by (with_reducible repeat (first | apply Kd.R_alloc | apply Kd.R_drewN | apply Kd.R_drew)); exact HO515.out))) (Kd.R_lt (by (with_reducible repeat (first | apply Kd.R_alloc | apply Kd.R_drewN | apply Kd.R_drew)); exact HO518.out))) (below_size (by repeat (first | (with_reducible first | exact HB.out | apply below_alloc | apply pw_below_drewN | apply below_drew1) | exact HB.out)))); have n5_ := Aside0.mk (below_step (by repeat (first | (with_reducible first | exact HB.out | apply below_alloc | apply pw_below_drewN | apply below_drew1) | exact HB.out)) hb); clear HO_0; clear HO_7; clear HO515; clear HO518; clear HB; have HO_0 := n0_; have HO_7 := n1_; have HO515 := n2_; have HO518 := n3_; have HO521 := n4_; have HB := n5_; clear n0_ n1_ n2_ n3_ n4_ n5_; (try clear hb); (try clear hb2); (try clear hk); (try clear hi); (try clear ho0); obtain ⟨Ao48, co48, eo48⟩ := Kd.R_slice HO515.out; subst eo48; obtain ⟨Ao49, co49, eo49⟩ := Kd.R_slice HO521.out; subst eo49) | (go_at_call 37; (with_reducible refine (catchmentref05_Same.calls kj10 _ _ t513 _ _ t519 true _ ?side1 ?side2 ?side3 ?side4 A25.out).mono ?_); (case side1 => repeat (first | exact (Kd.R_reads' HO515.out).2.2 | (with_reducible refine Kd.C_alloc ?_ _) | (with_reducible refine Kd.C_drewN ?_ _) | (with_reducible refine Kd.C_drew ?_))); (case side2 => exact (Kd.R_reads' HO515.out).2.1); (case side3 => repeat (first | exact (Kd.R_reads' HO521.out).2.2 | (with_reducible refine Kd.C_alloc ?_ _) | (with_reducible refine Kd.C_drewN ?_ _) | (with_reducible refine Kd.C_drew ?_))); (case side4 => exact (Kd.R_reads' HO521.out).2.1); rintro e w' ⟨rfl, ⟨nd, rfl⟩⟩) | (go_at_call 41; (with_reducible refine (leaf_Right.calls kj10 _ _ t508 1000 t525 _ ?side1 ?side2 A41.out).mono ?_); (case side1 => repeat (first | exact (Kd.N_reads' HO_7.out).2.2 | (with_reducible refine Kd.C_alloc ?_ _) | (with_reducible refine Kd.C_drewN ?_ _) | (with_reducible refine Kd.C_drew ?_))); (case side2 => exact (Kd.N_reads' HO_7.out).2.1); rintro e w50 ⟨rfl, hb⟩; have n0_ := Aside0.mk (Kd.N_below (by (with_reducible repeat (first | apply Kd.N_alloc | apply Kd.N_drewN | apply Kd.N_drew)); exact HO_0.out) hb); have n1_ := Aside0.mk (Kd.N_below (by (with_reducible repeat (first | apply Kd.N_alloc | apply Kd.N_drewN | apply Kd.N_drew)); exact HO_7.out) hb); have n2_ := Aside0.mk (Kd.R_below (by (with_reducible repeat (first | apply Kd.R_alloc | apply Kd.R_drewN | apply Kd.R_drew)); exact HO515.out) hb); have n3_ := Aside0.mk (Kd.R_below (by (with_reducible repeat (first | apply Kd.R_alloc | apply Kd.R_drewN | apply Kd.R_drew)); exact HO518.out) hb); have n4_ := Aside0.mk (Kd.R_below (by (with_reducible repeat (first | apply Kd.R_alloc | apply Kd.R_drewN | apply Kd.R_drew)); exact HO521.out) hb); have n5_ := Aside0.mk (below_step (by repeat (first | (with_reducible first | exact HB.out | apply below_alloc | apply pw_below_drewN | apply below_drew1) | exact HB.out)) hb); clear HO_0; clear HO_7; clear HO515; clear HO518; clear HO521; clear HB; have HO_0 := n0_; have HO_7 := n1_; have HO515 := n2_; have HO518 := n3_; have HO521 := n4_; have HB := n5_; clear n0_ n1_ n2_ n3_ n4_ n5_; (try clear hb); (try clear hb2); (try clear hk); (try clear hi)))
                  go_ret
                  exact ⟨by first | rfl | (simp [errW_none, errW_some] <;> rfl) | (simp only [← hji5]; first | rfl | (simp [errW_none, errW_some] <;> rfl)) | (simp [*, errW_none, errW_some] <;> rfl), by repeat (first | (with_reducible first | exact HB.out | apply below_alloc | apply pw_below_drewN | apply below_drew1) | exact HB.out)⟩
              · replace c26 := Bool.eq_false_iff.mpr c26
                subst c26
                have H1 : (none) = some r := by rw [if_neg (show ¬ (false = true) by decide)] at H; exact H
                clear H
                have H := H1
                clear H1
                exact absurd H (by simp)
            · replace c21 := Bool.eq_false_iff.mpr c21
              subst c21
              have H1 : (none) = some r := by rw [if_neg (show ¬ (false = true) by decide)] at H; exact H
              clear H
              have H := H1
              clear H1
              exact absurd H (by simp)
      · replace c9 := Bool.eq_false_iff.mpr c9
        subst c9
        have H1 : ((catchmentlaw11_live.f k).bind fun t507 => (some t507)) = some r := by rw [if_neg (show ¬ (false = true) by decide)] at H; exact H
        clear H
        have H := H1
        clear H1
        replace H := Option.bind_eq_some_iff.mp H
        obtain ⟨t507, A510, H⟩ := H
        replace H : (some t507) = some r := H
        have A51 := Aside0.mk A510
        clear A510
        obtain rfl := Option.some.inj H
        have HFEW := Aside0.mk (show ∀ W : World, Calls Try.prog 28 #[.slice A1 l1.length c1] W (fun e w' => e = .returned (.slice A1 y502.length c1) ∧ W = w') from fun W => by have h_ := catchmentlaw11_LeafKeeps_few_read A1 c1 l1 HC1.out W; rw [hji5, ← Ny502.out] at h_; exact h_.mono fun _ _ h => ⟨h.1, h.2.symm⟩)
        go_enter Try.func8, Try.ntmps8
        go_wp2_with (first | (go_at_call 28; refine (HFEW.out _).mono ?_; rintro e w_ ⟨rfl, rfl⟩) | ((with_reducible refine gate_callee (f := 27) rfl ?_); refine goesL_ (some 10) rfl rfl Try.func27 (by kernel_rfl) rfl #[.slice A0 l0.length c0] rfl (by (try simp only [List.map_toArray, List.map_cons, List.map_nil]); first | done | rfl | (simp only [List.length_drop, List.length_take]; rfl)) ?_; (with_reducible refine (catchmentlaw11_few.calls k (fun k_ => k_ < w.heap.size) _ _ l0 t499 _ ?side1 A4.out).mono ?_); (case side1 => exact Kd.V_mk HC0.out (Kd.F_below (Kd.C_F (Kd.heap_slice 85 k85_heap) HR0.out) (by repeat (first | (with_reducible first | exact HB.out | apply below_alloc | apply pw_below_drewN | apply below_drew1) | exact HB.out)))); rintro e w52 ⟨v500, rfl, ho0, hb⟩; refine ⟨_, rfl, ?_⟩; have n0_ := Aside0.mk (Kd.N_lower (Kd.N_mono (ok' := fun k_ => True) ho0 (fun k_ hk_ => trivial)) (below_size (by repeat (first | (with_reducible first | exact HB.out | apply below_alloc | apply pw_below_drewN | apply below_drew1) | exact HB.out)))); have n1_ := Aside0.mk (below_step (by repeat (first | (with_reducible first | exact HB.out | apply below_alloc | apply pw_below_drewN | apply below_drew1) | exact HB.out)) hb); clear HB; have HO501 := n0_; have HB := n1_; clear n0_ n1_; (try clear hb); (try clear hb2); (try clear hk); (try clear hi); (try clear ho0); have q53 : ((ji5) : Int) ≤ ((l1.length : Int) : Int) := of_decide_eq_true (by first | (with_reducible assumption) | assumption); obtain ⟨i053, hi053, _, hsz53, _⟩ := info_parts info69; have hroom53 : l1.length ≤ c1 := HC1.out; have hC53 : Kd.C k69 _ A1 l1.length l1 := HR1.out; have hcut53 := cut_to (P := Try.prog) 60 69 .i64 Try.underlying60 hi053 A1 l1.length c1 (ji5) (of_decide_eq_true (by first | (with_reducible assumption) | assumption)) q53 hroom53; have hr53 := Kd.C_take (m := ((ji5) : Int).toNat) hC53 (by omega); have hy53 : y502.length = ((ji5) : Int).toNat := (by rw [Ny502.out, List.length_take]; omega); rw [← Ny502.out] at hr53; rw [← hy53] at hcut53; have HR505 := Aside0.mk hr53; have HC505 := Aside0.mk (show y502.length ≤ c1 from by omega); clear hr53 hC53 hroom53 hi053 hsz53; have KY53 := Aside0.mk hy53; clear hy53; replace q53 := eq_true q53; obtain ⟨Ao54, co54, eo54⟩ := Kd.N_slice HO501.out; subst eo54) | ((with_reducible refine gate_callee (f := 29) rfl ?_); refine goesL_ (some 14) rfl rfl Try.func29 (by kernel_rfl) rfl #[.slice Ao54 t499.length co54] rfl (by (try simp only [List.map_toArray, List.map_cons, List.map_nil]); first | done | rfl | (simp only [List.length_drop, List.length_take]; rfl)) ?_; (with_reducible refine (catchmentref11_Row.calls k _ _ t499 false _ ?side1 ?side2 A8.out).mono ?_); (case side1 => repeat (first | exact (Kd.N_reads' HO501.out).2.2 | (with_reducible refine Kd.C_alloc ?_ _) | (with_reducible refine Kd.C_drewN ?_ _) | (with_reducible refine Kd.C_drew ?_))); (case side2 => exact (Kd.N_reads' HO501.out).2.1); rintro e w55 ⟨rfl, hb⟩; refine ⟨_, rfl, ?_⟩; have n0_ := Aside0.mk (Kd.N_below (by (with_reducible repeat (first | apply Kd.N_alloc | apply Kd.N_drewN | apply Kd.N_drew)); exact HO501.out) hb); have n1_ := Aside0.mk (below_step (by repeat (first | (with_reducible first | exact HB.out | apply below_alloc | apply pw_below_drewN | apply below_drew1) | exact HB.out)) hb); clear HO501; clear HB; have HO501 := n0_; have HB := n1_; clear n0_ n1_; (try clear hb); (try clear hb2); (try clear hk); (try clear hi)) | ((with_reducible refine gate_callee (f := 30) rfl ?_); refine goesL_ (some 16) rfl rfl Try.func30 (by kernel_rfl) rfl #[] rfl (by (try simp only [List.map_toArray, List.map_cons, List.map_nil]); first | done | rfl | (simp only [List.length_drop, List.length_take]; rfl)) ?_; (with_reducible refine (catchmentlaw11_live.calls k  t507 _ A51.out).mono ?_); rintro e w56 ⟨rfl, hb⟩; refine ⟨_, rfl, ?_⟩; have n0_ := Aside0.mk (Kd.N_below (by (with_reducible repeat (first | apply Kd.N_alloc | apply Kd.N_drewN | apply Kd.N_drew)); exact HO501.out) hb); have n1_ := Aside0.mk (below_step (by repeat (first | (with_reducible first | exact HB.out | apply below_alloc | apply pw_below_drewN | apply below_drew1) | exact HB.out)) hb); clear HO501; clear HB; have HO501 := n0_; have HB := n1_; clear n0_ n1_; (try clear hb); (try clear hb2); (try clear hk); (try clear hi)))
        go_ret
        exact ⟨by first | rfl | (simp [errW_none, errW_some] <;> rfl) | (simp only [← hji5]; first | rfl | (simp [errW_none, errW_some] <;> rfl)) | (simp [*, errW_none, errW_some] <;> rfl), by repeat (first | (with_reducible first | exact HB.out | apply below_alloc | apply pw_below_drewN | apply below_drew1) | exact HB.out)⟩
    · rw [if_neg c7] at H
      exact absurd H (by simp)
  · rw [if_neg c6] at H
    exact absurd H (by simp)
def ok85 (y : S85) : Prop := (fun s : ByteArray => s.size ≤ 140737488351232) y.f0 ∧ (fun s : ByteArray => s.size ≤ 140737488351232) y.f1
def ok69 (y : S69) : Prop := (fun x : Int => (Lit.int .u8 x).wf = true) y.f0 ∧ (fun x : Int => (Lit.int .i64 x).wf = true) y.f1 ∧ (fun s : ByteArray => s.size ≤ 140737488351232) y.f2 ∧ (fun s : ByteArray => s.size ≤ 140737488351232) y.f3 ∧ (fun s : ByteArray => s.size ≤ 140737488351232) y.f4 ∧ (fun x : Int => (Lit.int .u64 x).wf = true) y.f5
/-- THE ONE PURE STATEMENT of catchmentlaw11_LeafKeeps. -/
def catchmentlaw11_LeafKeeps.Pure : Prop := ∀ (l0 : List (List (S85))) (l1 : List (S69)) (a2 : Int), (fun xs : List (List (S85)) => xs.length ≤ maxLen ∧ xs.length * 24 ≤ 140737488351232 ∧ ∀ x ∈ xs, (fun xs : List (S85) => xs.length ≤ maxLen ∧ xs.length * 32 ≤ 140737488351232 ∧ ∀ x ∈ xs, ok85 x) x) l0 → (fun xs : List (S69) => xs.length ≤ maxLen ∧ xs.length * 72 ≤ 140737488351232 ∧ ∀ x ∈ xs, ok69 x) l1 → (fun x : Int => (Lit.int .i64 x).wf = true) a2 → ∃ k, catchmentlaw11_LeafKeeps.f k l0 l1 a2 = some true
theorem catchmentlaw11_LeafKeeps.walk (P : catchmentlaw11_LeafKeeps.Pure) (A0 : Option Addr) (c0 : Nat) (l0 : List (List (S85))) (A1 : Option Addr) (c1 : Nat) (l1 : List (S69)) (a2 : Int) (w : World) (hr0 : Kd.C (Kd.slice 85 k85) w A0 l0.length l0) (hc0 : l0.length ≤ c0) (hr1 : Kd.C k69 w A1 l1.length l1) (hc1 : l1.length ≤ c1) (ok_0 : (fun xs : List (List (S85)) => xs.length ≤ maxLen ∧ xs.length * 24 ≤ 140737488351232 ∧ ∀ x ∈ xs, (fun xs : List (S85) => xs.length ≤ maxLen ∧ xs.length * 32 ≤ 140737488351232 ∧ ∀ x ∈ xs, ok85 x) x) l0) (ok_1 : (fun xs : List (S69) => xs.length ≤ maxLen ∧ xs.length * 72 ≤ 140737488351232 ∧ ∀ x ∈ xs, ok69 x) l1) (ok_2 : (fun x : Int => (Lit.int .i64 x).wf = true) a2) :
    Calls Try.prog 8 #[.slice A0 l0.length c0, .slice A1 l1.length c1, .int .i64 a2] w fun e w' => e = .returned (.bool true) ∧ Below w.heap.size w w' := by
  obtain ⟨k, h⟩ := P l0 l1 a2 ok_0 ok_1 ok_2
  refine (catchmentlaw11_LeafKeeps.calls k A0 c0 l0 A1 c1 l1 a2 true w hr0 hc0 hr1 hc1 h).mono ?_
  rintro e w' ⟨rfl, hd⟩
  exact ⟨rfl, hd⟩

end Go.Proofs.Ytpfikmchimlneaa.M2
