/- tight -/ -- written by wip/myprint.py
import Derived.Test.YtnklnjghecmihaaL2x0
import Derived.Test.YtnklnjghecmihaaL2P0
import Derived.Test.YtnklnjghecmihaaL2x9
import Derived.Test.YtnklnjghecmihaaL2x37
import Derived.Test.YtnklnjghecmihaaL2x44
import Derived.Test.YtnklnjghecmihaaL2x61
import Derived.Test.YtnklnjghecmihaaL2x63
namespace Go.Proofs.Ytnklnjghecmihaa.L2
open Go.RowKit Go.Proofs.YtnklnjghecmihaaW PrintWords PrintLast PrintMore Mine
attribute [local go_sem] max2_int min2_int max_two min_two max_three min_three max_four min_four max2_str min2_str binOp_gtr_str binOp_leq_str binOp_geq_str
set_option linter.unusedVariables false
set_option linter.unusedSimpArgs false
theorem q64_0 {P : Prop} (h : P := by repeat (first | (with_reducible first | exact HB.out | apply below_alloc | apply pw_below_drewN | apply below_drew1) | exact HB.out)) : P := h
theorem q64_1 {P : Prop} (h : P := by repeat (first | exact (Kd.C_below HR504.out HB.out) | (with_reducible refine Kd.C_alloc ?_ _) | (with_reducible refine Kd.C_drewN ?_ _) | (with_reducible refine Kd.C_drew ?_))) : P := h
theorem q64_2 {P : Prop} (h : P := by (with_reducible repeat (first | refine blk_drewN ?_ _ | refine blk_drew ?_ | refine blk_alloc ?_ _)); exact BK500.out) : P := h
theorem q64_3 {P : Prop} (h : P := by repeat (first | (with_reducible first | exact HB.out | apply below_alloc | apply pw_below_drewN | apply below_drew1 | refine below_set ?_ GE500.out) | exact HB.out)) : P := h
theorem q64_4 {P : Prop} (h : P := by (with_reducible repeat (first | apply Kd.R_alloc | apply Kd.R_drewN | apply Kd.R_drew)); exact HO509.out) : P := h
theorem q64_5 {P : Prop} (h : P := by (with_reducible repeat (first | apply Kd.R_alloc | apply Kd.R_drewN | apply Kd.R_drew)); exact HO512.out) : P := h
theorem q64_6 {P : Prop} (h : P := by (with_reducible repeat (first | apply Kd.R_alloc | apply Kd.R_drewN | apply Kd.R_drew)); exact HO_11.out) : P := h
theorem q64_7 {P : Prop} (h : P := by (with_reducible repeat (first | apply Kd.R_alloc | apply Kd.R_drewN | apply Kd.R_drew)); exact HO_12.out) : P := h

/-! ### catchmentlaw12_BufferParts: function 10 -/
def catchmentlaw12_BufferParts.j0 : Nat → ByteArray → List (S46) → List (S46) → ByteArray → Bool → ByteArray → Bool → ByteArray → Bool → Bool → Option (Bool)
 | 0, _, _, _, _, _, _, _, _, _, _ => none
 | k + 1, x2, x11, x12, x13, x14, x15, x16, x17, x18, x61 => if x61 = true then ((catchmentlaw12_live.f k).bind fun t521 => (if t521 = true then (if x15.toList = x13.toList then (if (x16 == x14) = true then ((buffer_At.f k x12 x2).bind fun t522 => (some ((t522.length : Int) == 0))) else (none)) else (none)) else (none))) else ((catchmentlaw12_live.f k).bind fun t525 => (if t525 = true then (if x17.toList = x13.toList then (if (x18 == x14) = true then ((buffer_At.f k x11 x2).bind fun t526 => (some ((t526.length : Int) == 0))) else (none)) else (none)) else (none)))
def catchmentlaw12_BufferParts.f (k : Nat) (l0 : List (S46)) (a1_0 : ByteArray) (a1_1 : ByteArray) (a2 : ByteArray) (a3 : ByteArray) (a4 : Bool) : Option (Bool) := if 0 ≤ (mn (l0.length : Int) 30) then (if (mn (l0.length : Int) 30) ≤ (l0.length : Int) then ((some (l0.take ((mn (l0.length : Int) 30) : Int).toNat : List (S46))).bind fun y501 => ((catchmentref12_Right.f k y501).bind fun t505 => (if t505 = true then ((buffer_Take.f k y501 a1_0 a1_1).bind fun bt507 => ((catchmentref05_Value.f k y501 a2 a3 a4).bind fun bt513 => ((catchmentref05_Value.f k bt507.1 a2 a3 a4).bind fun bt515 => ((catchmentref05_Value.f k bt507.2 a2 a3 a4).bind fun bt517 => ((catchmentref02_Right.f a1_0 a1_1).bind fun t519 => (if t519 = true then ((catchmentref02_Holds.f a1_0 a1_1 a2).bind fun t520 => (catchmentlaw12_BufferParts.j0 k a2 bt507.1 bt507.2 bt513.1 bt513.2 bt515.1 bt515.2 bt517.1 bt517.2 t520)) else (catchmentlaw12_BufferParts.j0 k a2 bt507.1 bt507.2 bt513.1 bt513.2 bt515.1 bt515.2 bt517.1 bt517.2 false))))))) else ((catchmentlaw12_live.f k).bind fun t506 => (some t506))))) else (none)) else (none)
theorem catchmentlaw12_BufferParts.mono_l : ∀ k, (∀ y0 y1 y2 y3 y4 y5 y6 y7 y8 y9, LeO (catchmentlaw12_BufferParts.j0 k y0 y1 y2 y3 y4 y5 y6 y7 y8 y9) (catchmentlaw12_BufferParts.j0 (k + 1) y0 y1 y2 y3 y4 y5 y6 y7 y8 y9))
 | 0 => fun _ _ _ _ _ _ _ _ _ _ r h => by simp [catchmentlaw12_BufferParts.j0] at h
 | k + 1 => by
  have ih0 := catchmentlaw12_BufferParts.mono_l k
  ·intro y0 y1 y2 y3 y4 y5 y6 y7 y8 y9
   unfold catchmentlaw12_BufferParts.j0
   repeat' (with_reducible first | exact ih0 _ _ _ _ _ _ _ _ _ _ | exact buffer_At.mono _ _ _ | exact buffer_Take.mono _ _ _ _ | exact catchmentlaw12_live.mono _ | exact catchmentref05_Value.mono _ _ _ _ _ | exact catchmentref12_Right.mono _ _ | exact LeO.refl _ | exact LeO.none _ | refine LeO.ite ?_ ?_ | refine LeO.bind ?_ (fun _ => ?_))
theorem catchmentlaw12_BufferParts.mono : ∀ a0 a1 a2 a3 a4 a5 k, LeO (catchmentlaw12_BufferParts.f k a0 a1 a2 a3 a4 a5) (catchmentlaw12_BufferParts.f (k + 1) a0 a1 a2 a3 a4 a5) := by
 intro a0 a1 a2 a3 a4 a5 k
 have ih0 := catchmentlaw12_BufferParts.mono_l k
 unfold catchmentlaw12_BufferParts.f
 repeat' (with_reducible first | exact ih0 _ _ _ _ _ _ _ _ _ _ | exact buffer_At.mono _ _ _ | exact buffer_Take.mono _ _ _ _ | exact catchmentlaw12_live.mono _ | exact catchmentref05_Value.mono _ _ _ _ _ | exact catchmentref12_Right.mono _ _ | exact LeO.refl _ | exact LeO.none _ | refine LeO.ite ?_ ?_ | refine LeO.bind ?_ (fun _ => ?_))
set_option maxRecDepth 100000 in
set_option maxHeartbeats 4000000 in
theorem catchmentlaw12_BufferParts_few_read (A0 : Option Addr) (c0 : Nat) (l0 : List (S46)) (hl : l0.length ≤ c0) (w : World) : Calls Try.prog 24 #[.slice A0 l0.length c0] w fun e w' => e = .returned (.slice A0 (l0.take (mn (l0.length : Int) 30).toNat).length c0) ∧ w' = w := by
 obtain ⟨j, hj⟩ : ∃ j, mn (l0.length : Int) 30 = j := ⟨_, rfl⟩
 have h1 : 0 ≤ j := by rw [← hj]; unfold mn; split <;> omega
 have h2 : j ≤ (l0.length : Int) := by rw [← hj]; unfold mn; split <;> omega
 rw [hj]
 have hj_ : (if 30 < (l0.length : Int) then 30 else (l0.length : Int)) = j := hj
 have hjn : (if 30 < l0.length then (30 : Int) else (l0.length : Int)) = j := by rw [← hj]; unfold mn; (repeat' split) <;> omega
 obtain ⟨i06, hi06, _, hsz6, _⟩ := info_parts info46
 have hcut6 := cut_to (P := Try.prog) 36 46 .i64 Try.underlying36 hi06 A0 l0.length c0 j h1 h2 hl
 clear hi06 hsz6 hj
 have hl2 : (l0.take j.toNat).length = j.toNat := by rw [List.length_take]; omega
 go_enter Try.func24, Try.ntmps24
 go_wp2
 all_goals (go_ret; refine ⟨?_, rfl⟩; rw [hl2]; rfl)
set_option maxHeartbeats 8000000 in
set_option maxRecDepth 100000 in
theorem catchmentlaw12_BufferParts.calls (k : Nat) (A0 : Option Addr) (c0 : Nat) (l0 : List (S46)) (a1_0 : ByteArray) (a1_1 : ByteArray) (a2 : ByteArray) (a3 : ByteArray) (a4 : Bool) (r : Bool) (w : World) (hr0 : Kd.C k46 w A0 l0.length l0) (hc0 : l0.length ≤ c0) (h : catchmentlaw12_BufferParts.f k l0 a1_0 a1_1 a2 a3 a4 = some r) :
  Calls Try.prog 10 #[.slice A0 l0.length c0, .agg #[.string a1_0, .string a1_1], .string a2, .string a3, .bool a4] w fun e w' => e = .returned (.bool r) ∧ Below w.heap.size w w' := by
 have hu48 := Try.underlying48
 have HR0 := Aside0.mk hr0
 have HC0 := Aside0.mk hc0
 clear hr0 hc0
 have HB := Aside0.mk (Below.refl w.heap.size w)
 have H : (if 0 ≤ (mn (l0.length : Int) 30) then (if (mn (l0.length : Int) 30) ≤ (l0.length : Int) then ((some (l0.take ((mn (l0.length : Int) 30) : Int).toNat : List (S46))).bind fun y501 => ((catchmentref12_Right.f k y501).bind fun t505 => (if t505 = true then ((buffer_Take.f k y501 a1_0 a1_1).bind fun bt507 => ((catchmentref05_Value.f k y501 a2 a3 a4).bind fun bt513 => ((catchmentref05_Value.f k bt507.1 a2 a3 a4).bind fun bt515 => ((catchmentref05_Value.f k bt507.2 a2 a3 a4).bind fun bt517 => ((catchmentref02_Right.f a1_0 a1_1).bind fun t519 => (if t519 = true then ((catchmentref02_Holds.f a1_0 a1_1 a2).bind fun t520 => (catchmentlaw12_BufferParts.j0 k a2 bt507.1 bt507.2 bt513.1 bt513.2 bt515.1 bt515.2 bt517.1 bt517.2 t520)) else (catchmentlaw12_BufferParts.j0 k a2 bt507.1 bt507.2 bt513.1 bt513.2 bt515.1 bt515.2 bt517.1 bt517.2 false))))))) else ((catchmentlaw12_live.f k).bind fun t506 => (some t506))))) else (none)) else (none)) = some r := h
 clear h
 obtain ⟨ji6, hji6⟩ : ∃ j_ : Int, (mn (l0.length : Int) 30) = j_ := ⟨_, rfl⟩
 replace H : (if 0 ≤ (ji6) then (if (ji6) ≤ (l0.length : Int) then ((some (l0.take ((ji6) : Int).toNat : List (S46))).bind fun y501 => ((catchmentref12_Right.f k y501).bind fun t505 => (if t505 = true then ((buffer_Take.f k y501 a1_0 a1_1).bind fun bt507 => ((catchmentref05_Value.f k y501 a2 a3 a4).bind fun bt513 => ((catchmentref05_Value.f k bt507.1 a2 a3 a4).bind fun bt515 => ((catchmentref05_Value.f k bt507.2 a2 a3 a4).bind fun bt517 => ((catchmentref02_Right.f a1_0 a1_1).bind fun t519 => (if t519 = true then ((catchmentref02_Holds.f a1_0 a1_1 a2).bind fun t520 => (catchmentlaw12_BufferParts.j0 k a2 bt507.1 bt507.2 bt513.1 bt513.2 bt515.1 bt515.2 bt517.1 bt517.2 t520)) else (catchmentlaw12_BufferParts.j0 k a2 bt507.1 bt507.2 bt513.1 bt513.2 bt515.1 bt515.2 bt517.1 bt517.2 false))))))) else ((catchmentlaw12_live.f k).bind fun t506 => (some t506))))) else (none)) else (none)) = some r := by first | (rw [hji6] at H; exact H) | (simp only [hji6] at H ⊢; exact H)
 (try (have hji6h : ji6 ≤ 30 := by (rw [← hji6]; unfold mn; (repeat' split) <;> omega)))
 (try (have hji6g : ji6 ≤ 64 := by omega))
 (try (have hji6l : 0 ≤ ji6 := by (rw [← hji6]; unfold mn; (repeat' split) <;> omega)))
 (try (have hji6m : 0 ≤ ji6 := by omega))
 have hji6_ : (if 30 < (l0.length : Int) then 30 else (l0.length : Int)) = ji6 := hji6
 (try (have hji6n : (if 30 < l0.length then (30 : Int) else (l0.length : Int)) = ji6 := by (rw [← hji6]; unfold mn; (repeat' split) <;> omega)))
 by_cases c7 : 0 ≤ (ji6)
 ·rw [if_pos c7] at H
  have c7b0 := eq_true c7
  have c7b1 : decide (0 ≤ (ji6)) = true := decide_eq_true c7
  clear c7
  by_cases c8 : (ji6) ≤ (l0.length : Int)
  ·rw [if_pos c8] at H
   have c8b0 := eq_true c8
   have c8b1 : decide ((ji6) ≤ (l0.length : Int)) = true := decide_eq_true c8
   clear c8
   obtain ⟨y501, hy501⟩ : ∃ y_ : List (S46), y_ = (l0.take ((ji6) : Int).toNat) := ⟨_, rfl⟩
   replace H : ((catchmentref12_Right.f k y501).bind fun t505 => (if t505 = true then ((buffer_Take.f k y501 a1_0 a1_1).bind fun bt507 => ((catchmentref05_Value.f k y501 a2 a3 a4).bind fun bt513 => ((catchmentref05_Value.f k bt507.1 a2 a3 a4).bind fun bt515 => ((catchmentref05_Value.f k bt507.2 a2 a3 a4).bind fun bt517 => ((catchmentref02_Right.f a1_0 a1_1).bind fun t519 => (if t519 = true then ((catchmentref02_Holds.f a1_0 a1_1 a2).bind fun t520 => (catchmentlaw12_BufferParts.j0 k a2 bt507.1 bt507.2 bt513.1 bt513.2 bt515.1 bt515.2 bt517.1 bt517.2 t520)) else (catchmentlaw12_BufferParts.j0 k a2 bt507.1 bt507.2 bt513.1 bt513.2 bt515.1 bt515.2 bt517.1 bt517.2 false))))))) else ((catchmentlaw12_live.f k).bind fun t506 => (some t506)))) = some r := by first | (rw [hy501]; with_reducible exact H) | (have H2_ := (Option.bind_some _ _).symm.trans H; rw [hy501]; with_reducible exact H2_) | (have H2_ := (Option.bind_some _ _).symm.trans H; with_reducible exact H2_) | with_reducible exact H | (rw [hy501]; exact H) | exact H
   have Ny501 := Aside0.mk hy501
   clear hy501
   replace H := Option.bind_eq_some_iff.mp H
   obtain ⟨t505, A90, H⟩ := H
   replace H : (if t505 = true then ((buffer_Take.f k y501 a1_0 a1_1).bind fun bt507 => ((catchmentref05_Value.f k y501 a2 a3 a4).bind fun bt513 => ((catchmentref05_Value.f k bt507.1 a2 a3 a4).bind fun bt515 => ((catchmentref05_Value.f k bt507.2 a2 a3 a4).bind fun bt517 => ((catchmentref02_Right.f a1_0 a1_1).bind fun t519 => (if t519 = true then ((catchmentref02_Holds.f a1_0 a1_1 a2).bind fun t520 => (catchmentlaw12_BufferParts.j0 k a2 bt507.1 bt507.2 bt513.1 bt513.2 bt515.1 bt515.2 bt517.1 bt517.2 t520)) else (catchmentlaw12_BufferParts.j0 k a2 bt507.1 bt507.2 bt513.1 bt513.2 bt515.1 bt515.2 bt517.1 bt517.2 false))))))) else ((catchmentlaw12_live.f k).bind fun t506 => (some t506))) = some r := H
   have A9 := Aside0.mk A90
   clear A90
   by_cases c10 : t505 = true
   ·subst c10
    have H1 : ((buffer_Take.f k y501 a1_0 a1_1).bind fun bt507 => ((catchmentref05_Value.f k y501 a2 a3 a4).bind fun bt513 => ((catchmentref05_Value.f k bt507.1 a2 a3 a4).bind fun bt515 => ((catchmentref05_Value.f k bt507.2 a2 a3 a4).bind fun bt517 => ((catchmentref02_Right.f a1_0 a1_1).bind fun t519 => (if t519 = true then ((catchmentref02_Holds.f a1_0 a1_1 a2).bind fun t520 => (catchmentlaw12_BufferParts.j0 k a2 bt507.1 bt507.2 bt513.1 bt513.2 bt515.1 bt515.2 bt517.1 bt517.2 t520)) else (catchmentlaw12_BufferParts.j0 k a2 bt507.1 bt507.2 bt513.1 bt513.2 bt515.1 bt515.2 bt517.1 bt517.2 false))))))) = some r := by rw [if_pos rfl] at H; exact H
    clear H
    have H := H1
    clear H1
    replace H := Option.bind_eq_some_iff.mp H
    obtain ⟨⟨t507, t510⟩, A110, H⟩ := H
    replace H : ((catchmentref05_Value.f k y501 a2 a3 a4).bind fun bt513 => ((catchmentref05_Value.f k t507 a2 a3 a4).bind fun bt515 => ((catchmentref05_Value.f k t510 a2 a3 a4).bind fun bt517 => ((catchmentref02_Right.f a1_0 a1_1).bind fun t519 => (if t519 = true then ((catchmentref02_Holds.f a1_0 a1_1 a2).bind fun t520 => (catchmentlaw12_BufferParts.j0 k a2 t507 t510 bt513.1 bt513.2 bt515.1 bt515.2 bt517.1 bt517.2 t520)) else (catchmentlaw12_BufferParts.j0 k a2 t507 t510 bt513.1 bt513.2 bt515.1 bt515.2 bt517.1 bt517.2 false)))))) = some r := H
    have A11 := Aside0.mk A110
    clear A110
    replace H := Option.bind_eq_some_iff.mp H
    obtain ⟨⟨t513, t514⟩, A120, H⟩ := H
    replace H : ((catchmentref05_Value.f k t507 a2 a3 a4).bind fun bt515 => ((catchmentref05_Value.f k t510 a2 a3 a4).bind fun bt517 => ((catchmentref02_Right.f a1_0 a1_1).bind fun t519 => (if t519 = true then ((catchmentref02_Holds.f a1_0 a1_1 a2).bind fun t520 => (catchmentlaw12_BufferParts.j0 k a2 t507 t510 t513 t514 bt515.1 bt515.2 bt517.1 bt517.2 t520)) else (catchmentlaw12_BufferParts.j0 k a2 t507 t510 t513 t514 bt515.1 bt515.2 bt517.1 bt517.2 false))))) = some r := H
    have A12 := Aside0.mk A120
    clear A120
    replace H := Option.bind_eq_some_iff.mp H
    obtain ⟨⟨t515, t516⟩, A130, H⟩ := H
    replace H : ((catchmentref05_Value.f k t510 a2 a3 a4).bind fun bt517 => ((catchmentref02_Right.f a1_0 a1_1).bind fun t519 => (if t519 = true then ((catchmentref02_Holds.f a1_0 a1_1 a2).bind fun t520 => (catchmentlaw12_BufferParts.j0 k a2 t507 t510 t513 t514 t515 t516 bt517.1 bt517.2 t520)) else (catchmentlaw12_BufferParts.j0 k a2 t507 t510 t513 t514 t515 t516 bt517.1 bt517.2 false)))) = some r := H
    have A13 := Aside0.mk A130
    clear A130
    replace H := Option.bind_eq_some_iff.mp H
    obtain ⟨⟨t517, t518⟩, A140, H⟩ := H
    replace H : ((catchmentref02_Right.f a1_0 a1_1).bind fun t519 => (if t519 = true then ((catchmentref02_Holds.f a1_0 a1_1 a2).bind fun t520 => (catchmentlaw12_BufferParts.j0 k a2 t507 t510 t513 t514 t515 t516 t517 t518 t520)) else (catchmentlaw12_BufferParts.j0 k a2 t507 t510 t513 t514 t515 t516 t517 t518 false))) = some r := H
    have A14 := Aside0.mk A140
    clear A140
    have HC15 := Aside0.mk H
    clear H
    have HFEW := Aside0.mk (show ∀ W : World, Calls Try.prog 24 #[.slice A0 l0.length c0] W (fun e w' => e = .returned (.slice A0 y501.length c0) ∧ W = w') from fun W => by have h_ := catchmentlaw12_BufferParts_few_read A0 c0 l0 HC0.out W; rw [hji6, ← Ny501.out] at h_; exact h_.mono fun _ _ h => ⟨h.1, h.2.symm⟩)
    go_enter Try.func10, Try.ntmps10
    go_upto_region 8 with (first | (go_at_call 24; refine (HFEW.out _).mono ?_; rintro e w_ ⟨rfl, rfl⟩) | ((with_reducible refine gate_dst (N := 6) rfl ?_); (try (refine gate_guard (by rfl) ?_; dsimp only)); refine box_event ?hg (N := 6) ?hd (cs := #[.string a1_0, .string a1_1]) (t := 48) ?hr ?_; (case hd => rfl); (case hg => rfl); (case hr => first | (go_simp; done) | (go_simp; rfl)); intro gb500 hg w16 hbox hb; have BK500 := Aside0.mk (hbox); have GW500 := Aside0.mk (hs_ hg (q64_0)); replace HB := Aside0.mk (below_step (q64_0) hb); have GE500 := GW500; clear hb hbox hg; have q17 : ((ji6) : Int) ≤ ((l0.length : Int) : Int) := of_decide_eq_true (by first | (with_reducible assumption) | assumption); obtain ⟨i017, hi017, _, hsz17, _⟩ := info_parts info46; have hroom17 : l0.length ≤ c0 := HC0.out; have hC17 : Kd.C k46 _ A0 l0.length l0 := HR0.out; have hcut17 := cut_to (P := Try.prog) 36 46 .i64 Try.underlying36 hi017 A0 l0.length c0 (ji6) (of_decide_eq_true (by first | (with_reducible assumption) | assumption)) q17 hroom17; have hr17 := Kd.C_take (m := ((ji6) : Int).toNat) hC17 (by omega); have hy17 : y501.length = ((ji6) : Int).toNat := (by rw [Ny501.out, List.length_take]; omega); rw [← Ny501.out] at hr17; rw [← hy17] at hcut17; have HR504 := Aside0.mk hr17; have HC504 := Aside0.mk (show y501.length ≤ c0 from by omega); clear hr17 hC17 hroom17 hi017 hsz17; have KY17 := Aside0.mk hy17; clear hy17; replace q17 := eq_true q17) | ((with_reducible refine gate_callee (f := 25) rfl ?_); refine goesL_ (some 22) rfl rfl Try.func25 (by kernel_rfl) rfl #[.slice A0 y501.length c0] rfl (by (try simp only [List.map_toArray, List.map_cons, List.map_nil]); first | done | rfl | (simp only [List.length_drop, List.length_take]; rfl)) ?_; (with_reducible refine (catchmentref12_Right.calls k _ _ y501 true _ ?side1 ?side2 A9.out).mono ?_); (case side1 => exact q64_1); (case side2 => exact HC504.out); rintro e w18 ⟨rfl, hb⟩; refine ⟨_, rfl, ?_⟩; replace BK500 := Aside0.mk (blk_below (g := gb500) (o := .cells #[.string a1_0, .string a1_1] 48 (0, 0)) (q64_2) hb); replace HB := Aside0.mk (below_step (q64_3) hb); (try clear hb); (try clear hb2); (try clear hk); (try clear hi); obtain ⟨hcz19_0, hcz19_1, hfz19_0, hfz19_1⟩ := bf2_ BK500) | ((with_reducible refine gate_callee (f := 31) rfl ?_); refine goesL_ (some 28) rfl rfl Try.func31 (by kernel_rfl) rfl #[.slice A0 y501.length c0, .agg #[.string a1_0, .string a1_1]] rfl (by (try simp only [List.map_toArray, List.map_cons, List.map_nil]); first | done | rfl | (simp only [List.length_drop, List.length_take]; rfl)) ?_; (with_reducible refine (buffer_Take.calls k _ _ y501 a1_0 a1_1 t507 t510 _ ?side1 ?side2 A11.out).mono ?_); (case side1 => exact q64_1); (case side2 => exact HC504.out); rintro e w20 ⟨v508, v511, rfl, ho0, ho1, hb⟩; refine ⟨_, rfl, ?_⟩; have HO509 := Aside0.mk (Kd.R_lower ho0 (below_size (q64_3))); have HO512 := Aside0.mk (Kd.R_lower ho1 (below_size (q64_3))); replace BK500 := Aside0.mk (blk_below (g := gb500) (o := .cells #[.string a1_0, .string a1_1] 48 (0, 0)) (q64_2) hb); replace HB := Aside0.mk (below_step (q64_3) hb); (try clear hb); (try clear hb2); (try clear hk); (try clear hi); (try clear ho0); (try clear ho1)) | ((with_reducible refine gate_callee (f := 50) rfl ?_); refine goesL_ (some 36) rfl rfl Try.func50 (by kernel_rfl) rfl #[.slice A0 y501.length c0, .string a2, .string a3, .bool a4] rfl (by (try simp only [List.map_toArray, List.map_cons, List.map_nil]); first | done | rfl | (simp only [List.length_drop, List.length_take]; rfl)) ?_; (with_reducible refine (catchmentref05_Value.calls k _ _ y501 a2 a3 a4 t513 t514 _ ?side1 ?side2 A12.out).mono ?_); (case side1 => exact q64_1); (case side2 => exact HC504.out); rintro e w21 ⟨rfl, hb⟩; refine ⟨_, rfl, ?_⟩; replace HO509 := Aside0.mk (Kd.R_below (q64_4) hb); replace HO512 := Aside0.mk (Kd.R_below (q64_5) hb); replace BK500 := Aside0.mk (blk_below (g := gb500) (o := .cells #[.string a1_0, .string a1_1] 48 (0, 0)) (q64_2) hb); replace HB := Aside0.mk (below_step (q64_3) hb); (try clear hb); (try clear hb2); (try clear hk); (try clear hi); obtain ⟨Ao22, co22, eo22⟩ := Kd.R_slice HO509.out; subst eo22) | ((with_reducible refine gate_callee (f := 50) rfl ?_); refine goesL_ (some 44) rfl rfl Try.func50 (by kernel_rfl) rfl #[.slice Ao22 t507.length co22, .string a2, .string a3, .bool a4] rfl (by (try simp only [List.map_toArray, List.map_cons, List.map_nil]); first | done | rfl | (simp only [List.length_drop, List.length_take]; rfl)) ?_; (with_reducible refine (catchmentref05_Value.calls k _ _ t507 a2 a3 a4 t515 t516 _ ?side1 ?side2 A13.out).mono ?_); (case side1 => repeat (first | exact (Kd.R_reads' HO509.out).2.2 | (with_reducible refine Kd.C_alloc ?_ _) | (with_reducible refine Kd.C_drewN ?_ _) | (with_reducible refine Kd.C_drew ?_))); (case side2 => exact (Kd.R_reads' HO509.out).2.1); rintro e w23 ⟨rfl, hb⟩; refine ⟨_, rfl, ?_⟩; replace HO509 := Aside0.mk (Kd.R_below (q64_4) hb); replace HO512 := Aside0.mk (Kd.R_below (q64_5) hb); replace BK500 := Aside0.mk (blk_below (g := gb500) (o := .cells #[.string a1_0, .string a1_1] 48 (0, 0)) (q64_2) hb); replace HB := Aside0.mk (below_step (q64_3) hb); (try clear hb); (try clear hb2); (try clear hk); (try clear hi); obtain ⟨Ao24, co24, eo24⟩ := Kd.R_slice HO512.out; subst eo24) | ((with_reducible refine gate_callee (f := 50) rfl ?_); refine goesL_ (some 52) rfl rfl Try.func50 (by kernel_rfl) rfl #[.slice Ao24 t510.length co24, .string a2, .string a3, .bool a4] rfl (by (try simp only [List.map_toArray, List.map_cons, List.map_nil]); first | done | rfl | (simp only [List.length_drop, List.length_take]; rfl)) ?_; (with_reducible refine (catchmentref05_Value.calls k _ _ t510 a2 a3 a4 t517 t518 _ ?side1 ?side2 A14.out).mono ?_); (case side1 => repeat (first | exact (Kd.R_reads' HO512.out).2.2 | (with_reducible refine Kd.C_alloc ?_ _) | (with_reducible refine Kd.C_drewN ?_ _) | (with_reducible refine Kd.C_drew ?_))); (case side2 => exact (Kd.R_reads' HO512.out).2.1); rintro e w25 ⟨rfl, hb⟩; refine ⟨_, rfl, ?_⟩; replace HO509 := Aside0.mk (Kd.R_below (q64_4) hb); replace HO512 := Aside0.mk (Kd.R_below (q64_5) hb); replace BK500 := Aside0.mk (blk_below (g := gb500) (o := .cells #[.string a1_0, .string a1_1] 48 (0, 0)) (q64_2) hb); replace HB := Aside0.mk (below_step (q64_3) hb); (try clear hb); (try clear hb2); (try clear hk); (try clear hi)))
    (try simp only [Act.put, List.setIfInBounds_toArray, List.set_cons_zero, List.set_cons_succ])
    go_cut [61] (fun v61 wc => ∃ (kq : Nat) (x61_14 : Bool), v61 = .bool x61_14 ∧ Aside0 (catchmentlaw12_BufferParts.j0 kq a2 t507 t510 t513 t514 t515 t516 t517 t518 x61_14 = some r) ∧ Aside0 (kq ≤ k) ∧ Aside0 (Kd.R k46 46 wc w.heap.size (fun k_ => some k_ ≠ ((.slice Ao24 t510.length co24) : Value).ownBlock) (.slice Ao22 t507.length co22) t507) ∧ Aside0 (Kd.R k46 46 wc w.heap.size (fun k_ => some k_ ≠ ((.slice Ao22 t507.length co22) : Value).ownBlock) (.slice Ao24 t510.length co24) t510) ∧ Aside0 (wc.heap[gb500]? = some (.cells #[.string a1_0, .string a1_1] 48 (0, 0))) ∧ Aside0 (Below w.heap.size w wc))
    case first =>
     have H := HC15.out
     clear HC15
     replace H := Option.bind_eq_some_iff.mp H
     obtain ⟨t519, A260, H⟩ := H
     replace H : (if t519 = true then ((catchmentref02_Holds.f a1_0 a1_1 a2).bind fun t520 => (catchmentlaw12_BufferParts.j0 k a2 t507 t510 t513 t514 t515 t516 t517 t518 t520)) else (catchmentlaw12_BufferParts.j0 k a2 t507 t510 t513 t514 t515 t516 t517 t518 false)) = some r := H
     have A26 := Aside0.mk A260
     clear A260
     by_cases c27 : t519 = true
     ·subst c27
      have H1 : ((catchmentref02_Holds.f a1_0 a1_1 a2).bind fun t520 => (catchmentlaw12_BufferParts.j0 k a2 t507 t510 t513 t514 t515 t516 t517 t518 t520)) = some r := by rw [if_pos rfl] at H; exact H
      clear H
      have H := H1
      clear H1
      replace H := Option.bind_eq_some_iff.mp H
      obtain ⟨t520, A280, H⟩ := H
      replace H : (catchmentlaw12_BufferParts.j0 k a2 t507 t510 t513 t514 t515 t516 t517 t518 t520) = some r := H
      have A28 := Aside0.mk A280
      clear A280
      have H' := Aside0.mk H
      clear H
      obtain ⟨hcz29_0, hcz29_1, hfz29_0, hfz29_1⟩ := bf2_ BK500
      go_wp2_with (first | ((with_reducible refine gate_callee (f := 52) rfl ?_); refine goesL_ (some 56) rfl rfl Try.func52 (by kernel_rfl) rfl #[.agg #[.string a1_0, .string a1_1]] rfl (by (try simp only [List.map_toArray, List.map_cons, List.map_nil]); first | done | rfl | (simp only [List.length_drop, List.length_take]; rfl)) ?_; (with_reducible refine (catchmentref02_Right.calls a1_0 a1_1 true _ A26.out).mono ?_); rintro e w30 ⟨rfl, hb⟩; refine ⟨_, rfl, ?_⟩; replace HO509 := Aside0.mk (Kd.R_below (q64_4) hb); replace HO512 := Aside0.mk (Kd.R_below (q64_5) hb); replace BK500 := Aside0.mk (blk_below (g := gb500) (o := .cells #[.string a1_0, .string a1_1] 48 (0, 0)) (q64_2) hb); replace HB := Aside0.mk (below_step (q64_3) hb); (try clear hb); (try clear hb2); (try clear hk); (try clear hi); obtain ⟨hcz31_0, hcz31_1, hfz31_0, hfz31_1⟩ := bf2_ BK500) | (go_at_call 47; (with_reducible refine (catchmentref02_Holds.calls a1_0 a1_1 a2 t520 _ A28.out).mono ?_); rintro e w32 ⟨rfl, hb⟩; replace HO509 := Aside0.mk (Kd.R_below (q64_4) hb); replace HO512 := Aside0.mk (Kd.R_below (q64_5) hb); replace BK500 := Aside0.mk (blk_below (g := gb500) (o := .cells #[.string a1_0, .string a1_1] 48 (0, 0)) (q64_2) hb); replace HB := Aside0.mk (below_step (q64_3) hb); (try clear hb); (try clear hb2); (try clear hk); (try clear hi)))
      go_meet
      case rel => exact ⟨_, (t520), (by first | rfl | (simp; done) | (simp [*]; done)), H', ⟨by first | omega | exact Nat.le_refl _⟩, ⟨q64_4⟩, ⟨q64_5⟩, ⟨q64_2⟩, ⟨q64_3⟩⟩
     ·replace c27 := Bool.eq_false_iff.mpr c27
      subst c27
      have H1 : (catchmentlaw12_BufferParts.j0 k a2 t507 t510 t513 t514 t515 t516 t517 t518 false) = some r := by rw [if_neg (show ¬ (false = true) by decide)] at H; exact H
      clear H
      have H := H1
      clear H1
      have H' := Aside0.mk H
      clear H
      obtain ⟨hcz33_0, hcz33_1, hfz33_0, hfz33_1⟩ := bf2_ BK500
      go_wp2_with (first | ((with_reducible refine gate_callee (f := 52) rfl ?_); refine goesL_ (some 56) rfl rfl Try.func52 (by kernel_rfl) rfl #[.agg #[.string a1_0, .string a1_1]] rfl (by (try simp only [List.map_toArray, List.map_cons, List.map_nil]); first | done | rfl | (simp only [List.length_drop, List.length_take]; rfl)) ?_; (with_reducible refine (catchmentref02_Right.calls a1_0 a1_1 false _ A26.out).mono ?_); rintro e w34 ⟨rfl, hb⟩; refine ⟨_, rfl, ?_⟩; replace HO509 := Aside0.mk (Kd.R_below (q64_4) hb); replace HO512 := Aside0.mk (Kd.R_below (q64_5) hb); replace BK500 := Aside0.mk (blk_below (g := gb500) (o := .cells #[.string a1_0, .string a1_1] 48 (0, 0)) (q64_2) hb); replace HB := Aside0.mk (below_step (q64_3) hb); (try clear hb); (try clear hb2); (try clear hk); (try clear hi)))
      go_meet
      case rel => exact ⟨_, (false), (by first | rfl | (simp; done) | (simp [*]; done)), H', ⟨by first | omega | exact Nat.le_refl _⟩, ⟨q64_4⟩, ⟨q64_5⟩, ⟨q64_2⟩, ⟨q64_3⟩⟩
    case rest =>
     clear HC15
     try clear c1
     try clear q1
     try clear c2
     try clear p2
     try clear c3
     try clear c5
     try clear c7
     try clear c7b0
     try clear c7b1
     try clear c8
     try clear c8b0
     try clear c8b1
     try clear c10
     try clear q17
     try clear c25
     try clear c27
     try clear c31
     try clear hcz19_0
     try clear hcz19_1
     try clear hcz29_0
     try clear hcz29_1
     try clear hcz31_0
     try clear hcz31_1
     try clear hcz33_0
     try clear hcz33_1
     try clear hfz19_0
     try clear hfz19_1
     try clear hfz29_0
     try clear hfz29_1
     try clear hfz31_0
     try clear hfz31_1
     try clear hfz33_0
     try clear hfz33_1
     try clear q17
     obtain ⟨kq, x61_14, rfl, HA, HJ14, HO_11, HO_12, BK500, HB⟩ := hcut
     cases kq with
     | zero => exact absurd HA.out (by simp [catchmentlaw12_BufferParts.j0])
     | succ kj14 =>
      have H := HA.out
      clear HA
      simp only [catchmentlaw12_BufferParts.j0] at H
      by_cases c35 : x61_14 = true
      ·subst c35
       have H1 : ((catchmentlaw12_live.f kj14).bind fun t521 => (if t521 = true then (if t515.toList = t513.toList then (if (t516 == t514) = true then ((buffer_At.f kj14 t510 a2).bind fun t522 => (some ((t522.length : Int) == 0))) else (none)) else (none)) else (none))) = some r := by rw [if_pos rfl] at H; exact H
       clear H
       have H := H1
       clear H1
       replace H := Option.bind_eq_some_iff.mp H
       obtain ⟨t521, A360, H⟩ := H
       replace H : (if t521 = true then (if t515.toList = t513.toList then (if (t516 == t514) = true then ((buffer_At.f kj14 t510 a2).bind fun t522 => (some ((t522.length : Int) == 0))) else (none)) else (none)) else (none)) = some r := H
       have A36 := Aside0.mk A360
       clear A360
       by_cases c37 : t521 = true
       ·subst c37
        have H1 : (if t515.toList = t513.toList then (if (t516 == t514) = true then ((buffer_At.f kj14 t510 a2).bind fun t522 => (some ((t522.length : Int) == 0))) else (none)) else (none)) = some r := by rw [if_pos rfl] at H; exact H
        clear H
        have H := H1
        clear H1
        by_cases c38 : t515.toList = t513.toList
        ·rw [if_pos c38] at H
         have c38b0 : (t515.toList == t513.toList) = true := beq_iff_eq.mpr c38
         have c38b1 : (t515.toList != t513.toList) = false := bne_eq_false_iff_eq.mpr c38
         clear c38
         by_cases c39 : (t516 == t514) = true
         ·rw [if_pos c39] at H
          have c39b0 : (t516 == t514) = true := c39
          (try (have c39b1 : decide (t516 = t514) = true := by simpa using c39))
          (try (have c39b2 : (t516 == t514) = true := by simpa using c39))
          clear c39
          replace H := Option.bind_eq_some_iff.mp H
          obtain ⟨t522, A400, H⟩ := H
          replace H : (some ((t522.length : Int) == 0)) = some r := H
          have A40 := Aside0.mk A400
          clear A400
          obtain rfl := Option.some.inj H
          go_wp2_with (first | ((with_reducible refine gate_callee (f := 26) rfl ?_); refine goesL_ (some 62) rfl rfl Try.func26 (by kernel_rfl) rfl #[] rfl (by (try simp only [List.map_toArray, List.map_cons, List.map_nil]); first | done | rfl | (simp only [List.length_drop, List.length_take]; rfl)) ?_; (with_reducible refine (catchmentlaw12_live.calls kj14  true _ A36.out).mono ?_); rintro e w41 ⟨rfl, hb⟩; refine ⟨_, rfl, ?_⟩; replace HO_11 := Aside0.mk (Kd.R_below (q64_6) hb); replace HO_12 := Aside0.mk (Kd.R_below (q64_7) hb); replace BK500 := Aside0.mk (blk_below (g := gb500) (o := .cells #[.string a1_0, .string a1_1] 48 (0, 0)) (q64_2) hb); replace HB := Aside0.mk (below_step (q64_3) hb); (try clear hb); (try clear hb2); (try clear hk); (try clear hi)) | (go_at_call 53; (with_reducible refine (buffer_At.calls kj14 _ _ t510 a2 t522 _ ?side1 ?side2 A40.out).mono ?_); (case side1 => repeat (first | exact (Kd.R_reads' HO_12.out).2.2 | (with_reducible refine Kd.C_alloc ?_ _) | (with_reducible refine Kd.C_drewN ?_ _) | (with_reducible refine Kd.C_drew ?_))); (case side2 => exact (Kd.R_reads' HO_12.out).2.1); rintro e w42 ⟨v523, rfl, ho0, hb⟩; have HO524 := Aside0.mk (Kd.R_lower (Kd.R_new' (Kd.R_new' ho0 (Kd.R_lt (q64_6))) (Kd.R_lt (q64_7))) (below_size (q64_3))); replace HO_11 := Aside0.mk (Kd.R_elder' (q64_6) (Kd.R_base ho0) hb); replace HO_12 := Aside0.mk (Kd.R_elder' (q64_7) (Kd.R_base ho0) hb); replace BK500 := Aside0.mk (blk_below (g := gb500) (o := .cells #[.string a1_0, .string a1_1] 48 (0, 0)) (q64_2) hb); replace HB := Aside0.mk (below_step (q64_3) hb); (try clear hb); (try clear hb2); (try clear hk); (try clear hi); (try clear ho0); obtain ⟨Ao43, co43, eo43⟩ := Kd.R_slice HO524.out; subst eo43))
          go_ret
          exact ⟨by first | rfl | (simp [errW_none, errW_some] <;> rfl) | (simp only [← hji6]; first | rfl | (simp [errW_none, errW_some] <;> rfl)) | (simp [*, errW_none, errW_some] <;> rfl), q64_3⟩
         ·rw [if_neg c39] at H
          exact absurd H (by simp)
        ·rw [if_neg c38] at H
         exact absurd H (by simp)
       ·replace c37 := Bool.eq_false_iff.mpr c37
        subst c37
        have H1 : (none) = some r := by rw [if_neg (show ¬ (false = true) by decide)] at H; exact H
        clear H
        have H := H1
        clear H1
        exact absurd H (by simp)
      ·replace c35 := Bool.eq_false_iff.mpr c35
       subst c35
       have H1 : ((catchmentlaw12_live.f kj14).bind fun t525 => (if t525 = true then (if t517.toList = t513.toList then (if (t518 == t514) = true then ((buffer_At.f kj14 t507 a2).bind fun t526 => (some ((t526.length : Int) == 0))) else (none)) else (none)) else (none))) = some r := by rw [if_neg (show ¬ (false = true) by decide)] at H; exact H
       clear H
       have H := H1
       clear H1
       replace H := Option.bind_eq_some_iff.mp H
       obtain ⟨t525, A440, H⟩ := H
       replace H : (if t525 = true then (if t517.toList = t513.toList then (if (t518 == t514) = true then ((buffer_At.f kj14 t507 a2).bind fun t526 => (some ((t526.length : Int) == 0))) else (none)) else (none)) else (none)) = some r := H
       have A44 := Aside0.mk A440
       clear A440
       by_cases c45 : t525 = true
       ·subst c45
        have H1 : (if t517.toList = t513.toList then (if (t518 == t514) = true then ((buffer_At.f kj14 t507 a2).bind fun t526 => (some ((t526.length : Int) == 0))) else (none)) else (none)) = some r := by rw [if_pos rfl] at H; exact H
        clear H
        have H := H1
        clear H1
        by_cases c46 : t517.toList = t513.toList
        ·rw [if_pos c46] at H
         have c46b0 : (t517.toList == t513.toList) = true := beq_iff_eq.mpr c46
         have c46b1 : (t517.toList != t513.toList) = false := bne_eq_false_iff_eq.mpr c46
         clear c46
         by_cases c47 : (t518 == t514) = true
         ·rw [if_pos c47] at H
          have c47b0 : (t518 == t514) = true := c47
          (try (have c47b1 : decide (t518 = t514) = true := by simpa using c47))
          (try (have c47b2 : (t518 == t514) = true := by simpa using c47))
          clear c47
          replace H := Option.bind_eq_some_iff.mp H
          obtain ⟨t526, A480, H⟩ := H
          replace H : (some ((t526.length : Int) == 0)) = some r := H
          have A48 := Aside0.mk A480
          clear A480
          obtain rfl := Option.some.inj H
          go_wp2_with (first | ((with_reducible refine gate_callee (f := 26) rfl ?_); refine goesL_ (some 80) rfl rfl Try.func26 (by kernel_rfl) rfl #[] rfl (by (try simp only [List.map_toArray, List.map_cons, List.map_nil]); first | done | rfl | (simp only [List.length_drop, List.length_take]; rfl)) ?_; (with_reducible refine (catchmentlaw12_live.calls kj14  true _ A44.out).mono ?_); rintro e w49 ⟨rfl, hb⟩; refine ⟨_, rfl, ?_⟩; replace HO_11 := Aside0.mk (Kd.R_below (q64_6) hb); replace HO_12 := Aside0.mk (Kd.R_below (q64_7) hb); replace BK500 := Aside0.mk (blk_below (g := gb500) (o := .cells #[.string a1_0, .string a1_1] 48 (0, 0)) (q64_2) hb); replace HB := Aside0.mk (below_step (q64_3) hb); (try clear hb); (try clear hb2); (try clear hk); (try clear hi)) | (go_at_call 53; (with_reducible refine (buffer_At.calls kj14 _ _ t507 a2 t526 _ ?side1 ?side2 A48.out).mono ?_); (case side1 => repeat (first | exact (Kd.R_reads' HO_11.out).2.2 | (with_reducible refine Kd.C_alloc ?_ _) | (with_reducible refine Kd.C_drewN ?_ _) | (with_reducible refine Kd.C_drew ?_))); (case side2 => exact (Kd.R_reads' HO_11.out).2.1); rintro e w50 ⟨v527, rfl, ho0, hb⟩; have HO528 := Aside0.mk (Kd.R_lower (Kd.R_new' (Kd.R_new' ho0 (Kd.R_lt (q64_6))) (Kd.R_lt (q64_7))) (below_size (q64_3))); replace HO_11 := Aside0.mk (Kd.R_elder' (q64_6) (Kd.R_base ho0) hb); replace HO_12 := Aside0.mk (Kd.R_elder' (q64_7) (Kd.R_base ho0) hb); replace BK500 := Aside0.mk (blk_below (g := gb500) (o := .cells #[.string a1_0, .string a1_1] 48 (0, 0)) (q64_2) hb); replace HB := Aside0.mk (below_step (q64_3) hb); (try clear hb); (try clear hb2); (try clear hk); (try clear hi); (try clear ho0); obtain ⟨Ao51, co51, eo51⟩ := Kd.R_slice HO528.out; subst eo51))
          go_ret
          exact ⟨by first | rfl | (simp [errW_none, errW_some] <;> rfl) | (simp only [← hji6]; first | rfl | (simp [errW_none, errW_some] <;> rfl)) | (simp [*, errW_none, errW_some] <;> rfl), q64_3⟩
         ·rw [if_neg c47] at H
          exact absurd H (by simp)
        ·rw [if_neg c46] at H
         exact absurd H (by simp)
       ·replace c45 := Bool.eq_false_iff.mpr c45
        subst c45
        have H1 : (none) = some r := by rw [if_neg (show ¬ (false = true) by decide)] at H; exact H
        clear H
        have H := H1
        clear H1
        exact absurd H (by simp)
   ·replace c10 := Bool.eq_false_iff.mpr c10
    subst c10
    have H1 : ((catchmentlaw12_live.f k).bind fun t506 => (some t506)) = some r := by rw [if_neg (show ¬ (false = true) by decide)] at H; exact H
    clear H
    have H := H1
    clear H1
    replace H := Option.bind_eq_some_iff.mp H
    obtain ⟨t506, A520, H⟩ := H
    replace H : (some t506) = some r := H
    have A52 := Aside0.mk A520
    clear A520
    obtain rfl := Option.some.inj H
    have HFEW := Aside0.mk (show ∀ W : World, Calls Try.prog 24 #[.slice A0 l0.length c0] W (fun e w' => e = .returned (.slice A0 y501.length c0) ∧ W = w') from fun W => by have h_ := catchmentlaw12_BufferParts_few_read A0 c0 l0 HC0.out W; rw [hji6, ← Ny501.out] at h_; exact h_.mono fun _ _ h => ⟨h.1, h.2.symm⟩)
    go_enter Try.func10, Try.ntmps10
    go_wp2_with (first | (go_at_call 24; refine (HFEW.out _).mono ?_; rintro e w_ ⟨rfl, rfl⟩) | ((with_reducible refine gate_dst (N := 6) rfl ?_); (try (refine gate_guard (by rfl) ?_; dsimp only)); refine box_event ?hg (N := 6) ?hd (cs := #[.string a1_0, .string a1_1]) (t := 48) ?hr ?_; (case hd => rfl); (case hg => rfl); (case hr => first | (go_simp; done) | (go_simp; rfl)); intro gb500 hg w53 hbox hb; have BK500 := Aside0.mk (hbox); have GW500 := Aside0.mk (hs_ hg (q64_0)); replace HB := Aside0.mk (below_step (q64_0) hb); have GE500 := GW500; clear hb hbox hg; have q54 : ((ji6) : Int) ≤ ((l0.length : Int) : Int) := of_decide_eq_true (by first | (with_reducible assumption) | assumption); obtain ⟨i054, hi054, _, hsz54, _⟩ := info_parts info46; have hroom54 : l0.length ≤ c0 := HC0.out; have hC54 : Kd.C k46 _ A0 l0.length l0 := HR0.out; have hcut54 := cut_to (P := Try.prog) 36 46 .i64 Try.underlying36 hi054 A0 l0.length c0 (ji6) (of_decide_eq_true (by first | (with_reducible assumption) | assumption)) q54 hroom54; have hr54 := Kd.C_take (m := ((ji6) : Int).toNat) hC54 (by omega); have hy54 : y501.length = ((ji6) : Int).toNat := (by rw [Ny501.out, List.length_take]; omega); rw [← Ny501.out] at hr54; rw [← hy54] at hcut54; have HR504 := Aside0.mk hr54; have HC504 := Aside0.mk (show y501.length ≤ c0 from by omega); clear hr54 hC54 hroom54 hi054 hsz54; have KY54 := Aside0.mk hy54; clear hy54; replace q54 := eq_true q54) | ((with_reducible refine gate_callee (f := 25) rfl ?_); refine goesL_ (some 22) rfl rfl Try.func25 (by kernel_rfl) rfl #[.slice A0 y501.length c0] rfl (by (try simp only [List.map_toArray, List.map_cons, List.map_nil]); first | done | rfl | (simp only [List.length_drop, List.length_take]; rfl)) ?_; (with_reducible refine (catchmentref12_Right.calls k _ _ y501 false _ ?side1 ?side2 A9.out).mono ?_); (case side1 => exact q64_1); (case side2 => exact HC504.out); rintro e w55 ⟨rfl, hb⟩; refine ⟨_, rfl, ?_⟩; replace BK500 := Aside0.mk (blk_below (g := gb500) (o := .cells #[.string a1_0, .string a1_1] 48 (0, 0)) (q64_2) hb); replace HB := Aside0.mk (below_step (q64_3) hb); (try clear hb); (try clear hb2); (try clear hk); (try clear hi)) | ((with_reducible refine gate_callee (f := 26) rfl ?_); refine goesL_ (some 24) rfl rfl Try.func26 (by kernel_rfl) rfl #[] rfl (by (try simp only [List.map_toArray, List.map_cons, List.map_nil]); first | done | rfl | (simp only [List.length_drop, List.length_take]; rfl)) ?_; (with_reducible refine (catchmentlaw12_live.calls k  t506 _ A52.out).mono ?_); rintro e w56 ⟨rfl, hb⟩; refine ⟨_, rfl, ?_⟩; replace BK500 := Aside0.mk (blk_below (g := gb500) (o := .cells #[.string a1_0, .string a1_1] 48 (0, 0)) (q64_2) hb); replace HB := Aside0.mk (below_step (q64_3) hb); (try clear hb); (try clear hb2); (try clear hk); (try clear hi)))
    go_ret
    exact ⟨by first | rfl | (simp [errW_none, errW_some] <;> rfl) | (simp only [← hji6]; first | rfl | (simp [errW_none, errW_some] <;> rfl)) | (simp [*, errW_none, errW_some] <;> rfl), q64_3⟩
  ·rw [if_neg c8] at H
   exact absurd H (by simp)
 ·rw [if_neg c7] at H
  exact absurd H (by simp)
def ok46 (y : S46) : Prop := (fun x : Int => (Lit.int .u8 x).wf = true) y.f0 ∧ (fun x : Int => (Lit.int .i64 x).wf = true) y.f1 ∧ (fun s : ByteArray => s.size ≤ 140737488351232) y.f2 ∧ (fun s : ByteArray => s.size ≤ 140737488351232) y.f3 ∧ (fun s : ByteArray => s.size ≤ 140737488351232) y.f4 ∧ (fun x : Int => (Lit.int .u64 x).wf = true) y.f5
def ok48 (y : S48) : Prop := (fun s : ByteArray => s.size ≤ 140737488351232) y.f0 ∧ (fun s : ByteArray => s.size ≤ 140737488351232) y.f1
/-- THE ONE PURE STATEMENT of catchmentlaw12_BufferParts. -/
def catchmentlaw12_BufferParts.Pure : Prop := ∀ (l0 : List (S46)) (y1 : S48) (a2 : ByteArray) (a3 : ByteArray) (a4 : Bool), (fun xs : List (S46) => xs.length ≤ maxLen ∧ xs.length * 72 ≤ 140737488351232 ∧ ∀ x ∈ xs, ok46 x) l0 → ok48 y1 → (fun s : ByteArray => s.size ≤ 140737488351232) a2 → (fun s : ByteArray => s.size ≤ 140737488351232) a3 → ∃ k, catchmentlaw12_BufferParts.f k l0 y1.f0 y1.f1 a2 a3 a4 = some true
theorem catchmentlaw12_BufferParts.walk (P : catchmentlaw12_BufferParts.Pure) (A0 : Option Addr) (c0 : Nat) (l0 : List (S46)) (y1 : S48) (a2 : ByteArray) (a3 : ByteArray) (a4 : Bool) (w : World) (hr0 : Kd.C k46 w A0 l0.length l0) (hc0 : l0.length ≤ c0) (ok_0 : (fun xs : List (S46) => xs.length ≤ maxLen ∧ xs.length * 72 ≤ 140737488351232 ∧ ∀ x ∈ xs, ok46 x) l0) (ok_1 : ok48 y1) (ok_2 : (fun s : ByteArray => s.size ≤ 140737488351232) a2) (ok_3 : (fun s : ByteArray => s.size ≤ 140737488351232) a3) :
  Calls Try.prog 10 #[.slice A0 l0.length c0, .agg #[.string y1.f0, .string y1.f1], .string a2, .string a3, .bool a4] w fun e w' => e = .returned (.bool true) ∧ Below w.heap.size w w' := by
 obtain ⟨k, h⟩ := P l0 y1 a2 a3 a4 ok_0 ok_1 ok_2 ok_3
 refine (catchmentlaw12_BufferParts.calls k A0 c0 l0 y1.f0 y1.f1 a2 a3 a4 true w hr0 hc0 h).mono ?_
 rintro e w' ⟨rfl, hd⟩
 exact ⟨rfl, hd⟩

end Go.Proofs.Ytnklnjghecmihaa.L2
