/- tight -/ -- written by wip/myprint.py
import Derived.Test.YtnklnjghecmihaaL2x0
import Derived.Test.YtnklnjghecmihaaL2P0
import Derived.Test.YtnklnjghecmihaaL2x9
import Derived.Test.YtnklnjghecmihaaL2x24
import Derived.Test.YtnklnjghecmihaaL2x44
import Derived.Test.YtnklnjghecmihaaL2x45
import Derived.Test.YtnklnjghecmihaaL2x47
namespace Go.Proofs.Ytnklnjghecmihaa.L2
open Go.RowKit Go.Proofs.YtnklnjghecmihaaW PrintWords PrintLast PrintMore Mine
attribute [local go_sem] max2_int min2_int max_two min_two max_three min_three max_four min_four max2_str min2_str binOp_gtr_str binOp_leq_str binOp_geq_str
set_option linter.unusedVariables false
set_option linter.unusedSimpArgs false
theorem q48_0 {P : Prop} (h : P := by repeat (first | exact HR380.out | (with_reducible refine Kd.C_alloc ?_ _) | (with_reducible refine Kd.C_drewN ?_ _) | (with_reducible refine Kd.C_drew ?_))) : P := h
theorem q48_1 {P : Prop} (h : P := by repeat (first | (with_reducible first | exact HB.out | apply y1_ | apply y2_ | apply y3_) | exact HB.out)) : P := h
theorem q48_2 {P : Prop} (h : P := by repeat (first | exact (Kd.C_below HR380.out HB.out) | (with_reducible refine Kd.C_alloc ?_ _) | (with_reducible refine Kd.C_drewN ?_ _) | (with_reducible refine Kd.C_drew ?_))) : P := h
theorem q48_3 {P : Prop} (h : P := by repeat (first | exact (Kd.C_below HR384.out HB.out) | (with_reducible refine Kd.C_alloc ?_ _) | (with_reducible refine Kd.C_drewN ?_ _) | (with_reducible refine Kd.C_drew ?_))) : P := h
theorem q48_4 {P : Prop} (h : P := by (with_reducible repeat (first | apply Kd.R_alloc | apply Kd.R_drewN | apply Kd.R_drew)); exact HO389.out) : P := h
theorem q48_5 {P : Prop} (h : P := by repeat (first | exact (Kd.R_reads' HO389.out).2.2 | (with_reducible refine Kd.C_alloc ?_ _) | (with_reducible refine Kd.C_drewN ?_ _) | (with_reducible refine Kd.C_drew ?_))) : P := h
theorem q48_6 {P : Prop} (h : P := by repeat (first | exact (Kd.R_reads' HO392.out).2.2 | (with_reducible refine Kd.C_alloc ?_ _) | (with_reducible refine Kd.C_drewN ?_ _) | (with_reducible refine Kd.C_drew ?_))) : P := h
theorem q48_7 {P : Prop} (h : P := by (with_reducible repeat (first | apply Kd.R_alloc | apply Kd.R_drewN | apply Kd.R_drew)); exact Kd.R_mono HO389.out (fun _ hk => trivial)) : P := h
theorem q48_8 {P : Prop} (h : P := by (with_reducible repeat (first | apply Kd.R_alloc | apply Kd.R_drewN | apply Kd.R_drew)); exact HO_5.out) : P := h

/-! ### catchmentlaw12_BufferAdds: function 6 -/
mutual
def catchmentlaw12_BufferAdds.j0 : Nat → List (S46) → Bool → Option (Bool)
 | 0, _, _ => none
 | k + 1, x5, x33 => if x33 = true then (none) else (catchmentlaw12_BufferAdds.l0 k x5 1)
def catchmentlaw12_BufferAdds.l0 : Nat → List (S46) → Int → Option (Bool)
 | 0, _, _ => none
 | k + 1, x5, x6 => if x6 < (x5.length : Int) then (if 0 ≤ x6 then (if 0 ≤ (wrap64 (x6 - 1)) then (if (wrap64 (x6 - 1)) < (x5.length : Int) then ((catchmentref12_Ahead.f ((rd_T46 x5 x6).f0) ((rd_T46 x5 x6).f1) ((rd_T46 x5 x6).f2) ((rd_T46 x5 x6).f3) ((rd_T46 x5 x6).f4) ((rd_T46 x5 x6).f5) ((rd_T46 x5 (wrap64 (x6 - 1))).f0) ((rd_T46 x5 (wrap64 (x6 - 1))).f1) ((rd_T46 x5 (wrap64 (x6 - 1))).f2) ((rd_T46 x5 (wrap64 (x6 - 1))).f3) ((rd_T46 x5 (wrap64 (x6 - 1))).f4) ((rd_T46 x5 (wrap64 (x6 - 1))).f5)).bind fun t396 => (if t396 = true then (none) else (catchmentlaw12_BufferAdds.l0 k x5 (wrap64 (x6 + 1))))) else (none)) else (none)) else (none)) else ((catchmentlaw12_live.f k).bind fun t397 => (some t397))
end
def catchmentlaw12_BufferAdds.f (k : Nat) (l0 : List (S46)) (l1 : List (S46)) : Option (Bool) := if 0 ≤ (mn (l0.length : Int) 30) then (if (mn (l0.length : Int) 30) ≤ (l0.length : Int) then ((some (l0.take ((mn (l0.length : Int) 30) : Int).toNat : List (S46))).bind fun y377 => (if 0 ≤ (mn (l1.length : Int) 30) then (if (mn (l1.length : Int) 30) ≤ (l1.length : Int) then ((some (l1.take ((mn (l1.length : Int) 30) : Int).toNat : List (S46))).bind fun y381 => ((catchmentref12_Right.f k y377).bind fun t385 => (if t385 = true then ((buffer_Add.f k y377 y381).bind fun t387 => ((catchmentref12_Add.f k y377 y381).bind fun t390 => ((catchmentref04_Same.f k t387 t390).bind fun t393 => (if t393 = true then (catchmentlaw12_BufferAdds.j0 k t387 ((t387.length : Int) != (wrap64 ((y377.length : Int) + (y381.length : Int))))) else (catchmentlaw12_BufferAdds.j0 k t387 true))))) else ((catchmentlaw12_live.f k).bind fun t386 => (some t386))))) else (none)) else (none))) else (none)) else (none)
theorem catchmentlaw12_BufferAdds.mono_l : ∀ k, (∀ y0 y1, LeO (catchmentlaw12_BufferAdds.j0 k y0 y1) (catchmentlaw12_BufferAdds.j0 (k + 1) y0 y1)) ∧ (∀ y0 y1, LeO (catchmentlaw12_BufferAdds.l0 k y0 y1) (catchmentlaw12_BufferAdds.l0 (k + 1) y0 y1))
 | 0 => ⟨fun _ _ r h => by simp [catchmentlaw12_BufferAdds.j0] at h, fun _ _ r h => by simp [catchmentlaw12_BufferAdds.l0] at h⟩
 | k + 1 => by
  obtain ⟨ih0, ih1⟩ := catchmentlaw12_BufferAdds.mono_l k
  refine ⟨?_, ?_⟩
  ·intro y0 y1
   unfold catchmentlaw12_BufferAdds.j0
   repeat' (with_reducible first | exact ih0 _ _ | exact ih1 _ _ | exact buffer_Add.mono _ _ _ | exact catchmentlaw12_live.mono _ | exact catchmentref04_Same.mono _ _ _ | exact catchmentref12_Add.mono _ _ _ | exact catchmentref12_Right.mono _ _ | exact LeO.refl _ | exact LeO.none _ | refine LeO.ite ?_ ?_ | refine LeO.bind ?_ (fun _ => ?_))
  ·intro y0 y1
   unfold catchmentlaw12_BufferAdds.l0
   repeat' (with_reducible first | exact ih0 _ _ | exact ih1 _ _ | exact buffer_Add.mono _ _ _ | exact catchmentlaw12_live.mono _ | exact catchmentref04_Same.mono _ _ _ | exact catchmentref12_Add.mono _ _ _ | exact catchmentref12_Right.mono _ _ | exact LeO.refl _ | exact LeO.none _ | refine LeO.ite ?_ ?_ | refine LeO.bind ?_ (fun _ => ?_))
theorem catchmentlaw12_BufferAdds.mono : ∀ a0 a1 k, LeO (catchmentlaw12_BufferAdds.f k a0 a1) (catchmentlaw12_BufferAdds.f (k + 1) a0 a1) := by
 intro a0 a1 k
 obtain ⟨ih0, ih1⟩ := catchmentlaw12_BufferAdds.mono_l k
 unfold catchmentlaw12_BufferAdds.f
 repeat' (with_reducible first | exact ih0 _ _ | exact ih1 _ _ | exact buffer_Add.mono _ _ _ | exact catchmentlaw12_live.mono _ | exact catchmentref04_Same.mono _ _ _ | exact catchmentref12_Add.mono _ _ _ | exact catchmentref12_Right.mono _ _ | exact LeO.refl _ | exact LeO.none _ | refine LeO.ite ?_ ?_ | refine LeO.bind ?_ (fun _ => ?_))
def catchmentlaw12_BufferAdds.T10 : Bool × List (List Nat × List Nat) := (true, [([], []), ([], []), ([0, 1], [0, 1]), ([2], [2]), ([], []), ([], []), ([5], [5]), ([4, 6], [4, 6]), ([7], [7]), ([3, 8], [3, 8])])
def catchmentlaw12_BufferAdds.B10 : List Nat := [0, 0, 3, 7, 0, 0, 32, 112, 240, 511]
theorem catchmentlaw12_BufferAdds.tab10 : rtab .any (opsOf Try.f6 10) = catchmentlaw12_BufferAdds.T10 := by kernel_rfl
theorem catchmentlaw12_BufferAdds.bits10 : waitsOk catchmentlaw12_BufferAdds.T10.2 catchmentlaw12_BufferAdds.B10 = true := by kernel_rfl
set_option maxRecDepth 100000 in
set_option maxHeartbeats 4000000 in
theorem catchmentlaw12_BufferAdds_few_read (A0 : Option Addr) (c0 : Nat) (l0 : List (S46)) (hl : l0.length ≤ c0) (w : World) : Calls Try.prog 24 #[.slice A0 l0.length c0] w fun e w' => e = .returned (.slice A0 (l0.take (mn (l0.length : Int) 30).toNat).length c0) ∧ w' = w := by
 obtain ⟨j, hj⟩ : ∃ j, mn (l0.length : Int) 30 = j := ⟨_, rfl⟩
 have h1 : 0 ≤ j := by rw [← hj]; unfold mn; split <;> omega
 have h2 : j ≤ (l0.length : Int) := by rw [← hj]; unfold mn; split <;> omega
 rw [hj]
 have hj_ : (if 30 < (l0.length : Int) then 30 else (l0.length : Int)) = j := hj
 have hjn : (if 30 < l0.length then (30 : Int) else (l0.length : Int)) = j := by rw [← hj]; unfold mn; (repeat' split) <;> omega
 obtain ⟨i06, hi06, _, hsz6, _⟩ := info_parts info46
 have hcut6 := cut_to (P := Try.prog) 36 46 .i64 Try.underlying36 hi06 A0 l0.length c0 j h1 h2 hl
 clear hi06 hsz6 hj
 have hl2 : (l0.take j.toNat).length = j.toNat := by rw [List.length_take]; omega
 go_enter Try.func24, Try.ntmps24
 go_wp2
 all_goals (go_ret; refine ⟨?_, rfl⟩; rw [hl2]; rfl)
set_option maxHeartbeats 8000000 in
set_option maxRecDepth 100000 in
theorem catchmentlaw12_BufferAdds.calls (k : Nat) (A0 : Option Addr) (c0 : Nat) (l0 : List (S46)) (A1 : Option Addr) (c1 : Nat) (l1 : List (S46)) (r : Bool) (w : World) (hr0 : Kd.C k46 w A0 l0.length l0) (hc0 : l0.length ≤ c0) (hr1 : Kd.C k46 w A1 l1.length l1) (hc1 : l1.length ≤ c1) (h : catchmentlaw12_BufferAdds.f k l0 l1 = some r) :
  Calls Try.prog 6 #[.slice A0 l0.length c0, .slice A1 l1.length c1] w fun e w' => e = .returned (.bool r) ∧ Below w.heap.size w w' := by
 have hu46 := Try.underlying46
 have HR0 := Aside0.mk hr0
 have HC0 := Aside0.mk hc0
 clear hr0 hc0
 have HR1 := Aside0.mk hr1
 have HC1 := Aside0.mk hc1
 clear hr1 hc1
 have HB := Aside0.mk (Below.refl w.heap.size w)
 have H : (if 0 ≤ (mn (l0.length : Int) 30) then (if (mn (l0.length : Int) 30) ≤ (l0.length : Int) then ((some (l0.take ((mn (l0.length : Int) 30) : Int).toNat : List (S46))).bind fun y377 => (if 0 ≤ (mn (l1.length : Int) 30) then (if (mn (l1.length : Int) 30) ≤ (l1.length : Int) then ((some (l1.take ((mn (l1.length : Int) 30) : Int).toNat : List (S46))).bind fun y381 => ((catchmentref12_Right.f k y377).bind fun t385 => (if t385 = true then ((buffer_Add.f k y377 y381).bind fun t387 => ((catchmentref12_Add.f k y377 y381).bind fun t390 => ((catchmentref04_Same.f k t387 t390).bind fun t393 => (if t393 = true then (catchmentlaw12_BufferAdds.j0 k t387 ((t387.length : Int) != (wrap64 ((y377.length : Int) + (y381.length : Int))))) else (catchmentlaw12_BufferAdds.j0 k t387 true))))) else ((catchmentlaw12_live.f k).bind fun t386 => (some t386))))) else (none)) else (none))) else (none)) else (none)) = some r := h
 clear h
 obtain ⟨ji3, hji3⟩ : ∃ j_ : Int, (mn (l0.length : Int) 30) = j_ := ⟨_, rfl⟩
 replace H : (if 0 ≤ (ji3) then (if (ji3) ≤ (l0.length : Int) then ((some (l0.take ((ji3) : Int).toNat : List (S46))).bind fun y377 => (if 0 ≤ (mn (l1.length : Int) 30) then (if (mn (l1.length : Int) 30) ≤ (l1.length : Int) then ((some (l1.take ((mn (l1.length : Int) 30) : Int).toNat : List (S46))).bind fun y381 => ((catchmentref12_Right.f k y377).bind fun t385 => (if t385 = true then ((buffer_Add.f k y377 y381).bind fun t387 => ((catchmentref12_Add.f k y377 y381).bind fun t390 => ((catchmentref04_Same.f k t387 t390).bind fun t393 => (if t393 = true then (catchmentlaw12_BufferAdds.j0 k t387 ((t387.length : Int) != (wrap64 ((y377.length : Int) + (y381.length : Int))))) else (catchmentlaw12_BufferAdds.j0 k t387 true))))) else ((catchmentlaw12_live.f k).bind fun t386 => (some t386))))) else (none)) else (none))) else (none)) else (none)) = some r := by first | (rw [hji3] at H; exact H) | (simp only [hji3] at H ⊢; exact H)
 (try (have hji3h : ji3 ≤ 30 := by (rw [← hji3]; unfold mn; (repeat' split) <;> omega)))
 (try (have hji3g : ji3 ≤ 64 := by omega))
 (try (have hji3l : 0 ≤ ji3 := by (rw [← hji3]; unfold mn; (repeat' split) <;> omega)))
 (try (have hji3m : 0 ≤ ji3 := by omega))
 have hji3_ : (if 30 < (l0.length : Int) then 30 else (l0.length : Int)) = ji3 := hji3
 (try (have hji3n : (if 30 < l0.length then (30 : Int) else (l0.length : Int)) = ji3 := by (rw [← hji3]; unfold mn; (repeat' split) <;> omega)))
 by_cases c4 : 0 ≤ (ji3)
 ·rw [if_pos c4] at H
  have c4b0 := eq_true c4
  have c4b1 : decide (0 ≤ (ji3)) = true := decide_eq_true c4
  clear c4
  by_cases c5 : (ji3) ≤ (l0.length : Int)
  ·rw [if_pos c5] at H
   have c5b0 := eq_true c5
   have c5b1 : decide ((ji3) ≤ (l0.length : Int)) = true := decide_eq_true c5
   clear c5
   obtain ⟨y377, hy377⟩ : ∃ y_ : List (S46), y_ = (l0.take ((ji3) : Int).toNat) := ⟨_, rfl⟩
   replace H : (if 0 ≤ (mn (l1.length : Int) 30) then (if (mn (l1.length : Int) 30) ≤ (l1.length : Int) then ((some (l1.take ((mn (l1.length : Int) 30) : Int).toNat : List (S46))).bind fun y381 => ((catchmentref12_Right.f k y377).bind fun t385 => (if t385 = true then ((buffer_Add.f k y377 y381).bind fun t387 => ((catchmentref12_Add.f k y377 y381).bind fun t390 => ((catchmentref04_Same.f k t387 t390).bind fun t393 => (if t393 = true then (catchmentlaw12_BufferAdds.j0 k t387 ((t387.length : Int) != (wrap64 ((y377.length : Int) + (y381.length : Int))))) else (catchmentlaw12_BufferAdds.j0 k t387 true))))) else ((catchmentlaw12_live.f k).bind fun t386 => (some t386))))) else (none)) else (none)) = some r := by first | (rw [hy377]; with_reducible exact H) | (have H2_ := (Option.bind_some _ _).symm.trans H; rw [hy377]; with_reducible exact H2_) | (have H2_ := (Option.bind_some _ _).symm.trans H; with_reducible exact H2_) | with_reducible exact H | (rw [hy377]; exact H) | exact H
   have Ny377 := Aside0.mk hy377
   clear hy377
   obtain ⟨ji6, hji6⟩ : ∃ j_ : Int, (mn (l1.length : Int) 30) = j_ := ⟨_, rfl⟩
   replace H : (if 0 ≤ (ji6) then (if (ji6) ≤ (l1.length : Int) then ((some (l1.take ((ji6) : Int).toNat : List (S46))).bind fun y381 => ((catchmentref12_Right.f k y377).bind fun t385 => (if t385 = true then ((buffer_Add.f k y377 y381).bind fun t387 => ((catchmentref12_Add.f k y377 y381).bind fun t390 => ((catchmentref04_Same.f k t387 t390).bind fun t393 => (if t393 = true then (catchmentlaw12_BufferAdds.j0 k t387 ((t387.length : Int) != (wrap64 ((y377.length : Int) + (y381.length : Int))))) else (catchmentlaw12_BufferAdds.j0 k t387 true))))) else ((catchmentlaw12_live.f k).bind fun t386 => (some t386))))) else (none)) else (none)) = some r := by first | (rw [hji6] at H; exact H) | (simp only [hji6] at H ⊢; exact H)
   (try (have hji6h : ji6 ≤ 30 := by (rw [← hji6]; unfold mn; (repeat' split) <;> omega)))
   (try (have hji6g : ji6 ≤ 64 := by omega))
   (try (have hji6l : 0 ≤ ji6 := by (rw [← hji6]; unfold mn; (repeat' split) <;> omega)))
   (try (have hji6m : 0 ≤ ji6 := by omega))
   have hji6_ : (if 30 < (l1.length : Int) then 30 else (l1.length : Int)) = ji6 := hji6
   (try (have hji6n : (if 30 < l1.length then (30 : Int) else (l1.length : Int)) = ji6 := by (rw [← hji6]; unfold mn; (repeat' split) <;> omega)))
   by_cases c7 : 0 ≤ (ji6)
   ·rw [if_pos c7] at H
    have c7b0 := eq_true c7
    have c7b1 : decide (0 ≤ (ji6)) = true := decide_eq_true c7
    clear c7
    by_cases c8 : (ji6) ≤ (l1.length : Int)
    ·rw [if_pos c8] at H
     have c8b0 := eq_true c8
     have c8b1 : decide ((ji6) ≤ (l1.length : Int)) = true := decide_eq_true c8
     clear c8
     obtain ⟨y381, hy381⟩ : ∃ y_ : List (S46), y_ = (l1.take ((ji6) : Int).toNat) := ⟨_, rfl⟩
     replace H : ((catchmentref12_Right.f k y377).bind fun t385 => (if t385 = true then ((buffer_Add.f k y377 y381).bind fun t387 => ((catchmentref12_Add.f k y377 y381).bind fun t390 => ((catchmentref04_Same.f k t387 t390).bind fun t393 => (if t393 = true then (catchmentlaw12_BufferAdds.j0 k t387 ((t387.length : Int) != (wrap64 ((y377.length : Int) + (y381.length : Int))))) else (catchmentlaw12_BufferAdds.j0 k t387 true))))) else ((catchmentlaw12_live.f k).bind fun t386 => (some t386)))) = some r := by first | (rw [hy381]; with_reducible exact H) | (have H2_ := (Option.bind_some _ _).symm.trans H; rw [hy381]; with_reducible exact H2_) | (have H2_ := (Option.bind_some _ _).symm.trans H; with_reducible exact H2_) | with_reducible exact H | (rw [hy381]; exact H) | exact H
     have Ny381 := Aside0.mk hy381
     clear hy381
     replace H := Option.bind_eq_some_iff.mp H
     obtain ⟨t385, A90, H⟩ := H
     replace H : (if t385 = true then ((buffer_Add.f k y377 y381).bind fun t387 => ((catchmentref12_Add.f k y377 y381).bind fun t390 => ((catchmentref04_Same.f k t387 t390).bind fun t393 => (if t393 = true then (catchmentlaw12_BufferAdds.j0 k t387 ((t387.length : Int) != (wrap64 ((y377.length : Int) + (y381.length : Int))))) else (catchmentlaw12_BufferAdds.j0 k t387 true))))) else ((catchmentlaw12_live.f k).bind fun t386 => (some t386))) = some r := H
     have A9 := Aside0.mk A90
     clear A90
     by_cases c10 : t385 = true
     ·subst c10
      have H1 : ((buffer_Add.f k y377 y381).bind fun t387 => ((catchmentref12_Add.f k y377 y381).bind fun t390 => ((catchmentref04_Same.f k t387 t390).bind fun t393 => (if t393 = true then (catchmentlaw12_BufferAdds.j0 k t387 ((t387.length : Int) != (wrap64 ((y377.length : Int) + (y381.length : Int))))) else (catchmentlaw12_BufferAdds.j0 k t387 true))))) = some r := by rw [if_pos rfl] at H; exact H
      clear H
      have H := H1
      clear H1
      replace H := Option.bind_eq_some_iff.mp H
      obtain ⟨t387, A110, H⟩ := H
      replace H : ((catchmentref12_Add.f k y377 y381).bind fun t390 => ((catchmentref04_Same.f k t387 t390).bind fun t393 => (if t393 = true then (catchmentlaw12_BufferAdds.j0 k t387 ((t387.length : Int) != (wrap64 ((y377.length : Int) + (y381.length : Int))))) else (catchmentlaw12_BufferAdds.j0 k t387 true)))) = some r := H
      have A11 := Aside0.mk A110
      clear A110
      have HC12 := Aside0.mk H
      clear H
      have q13 : ((ji3) : Int) ≤ ((l0.length : Int) : Int) := of_decide_eq_true (by first | (with_reducible assumption) | assumption)
      obtain ⟨i013, hi013, _, hsz13, _⟩ := info_parts info46
      have hroom13 : l0.length ≤ c0 := HC0.out
      have hC13 : Kd.C k46 _ A0 l0.length l0 := HR0.out
      have hcut13 := cut_to (P := Try.prog) 36 46 .i64 Try.underlying36 hi013 A0 l0.length c0 (ji3) (of_decide_eq_true (by first | (with_reducible assumption) | assumption)) q13 hroom13
      have hr13 := Kd.C_take (m := ((ji3) : Int).toNat) hC13 (by omega)
      have hy13 : y377.length = ((ji3) : Int).toNat := (by rw [Ny377.out, List.length_take]; omega)
      rw [← Ny377.out] at hr13
      rw [← hy13] at hcut13
      have HR380 := Aside0.mk hr13
      have HC380 := Aside0.mk (show y377.length ≤ c0 from by omega)
      clear hr13 hC13 hroom13 hi013 hsz13
      have KY13 := Aside0.mk hy13
      clear hy13
      replace q13 := eq_true q13
      have q14 : ((ji6) : Int) ≤ ((l1.length : Int) : Int) := of_decide_eq_true (by first | (with_reducible assumption) | assumption)
      obtain ⟨i014, hi014, _, hsz14, _⟩ := info_parts info46
      have hroom14 : l1.length ≤ c1 := HC1.out
      have hC14 : Kd.C k46 _ A1 l1.length l1 := HR1.out
      have hcut14 := cut_to (P := Try.prog) 36 46 .i64 Try.underlying36 hi014 A1 l1.length c1 (ji6) (of_decide_eq_true (by first | (with_reducible assumption) | assumption)) q14 hroom14
      have hr14 := Kd.C_take (m := ((ji6) : Int).toNat) hC14 (by omega)
      have hy14 : y381.length = ((ji6) : Int).toNat := (by rw [Ny381.out, List.length_take]; omega)
      rw [← Ny381.out] at hr14
      rw [← hy14] at hcut14
      have HR384 := Aside0.mk hr14
      have HC384 := Aside0.mk (show y381.length ≤ c1 from by omega)
      clear hr14 hC14 hroom14 hi014 hsz14
      have KY14 := Aside0.mk hy14
      clear hy14
      replace q14 := eq_true q14
      have HFEW0 := Aside0.mk (show ∀ W : World, Calls Try.prog 24 #[.slice A0 l0.length c0] W (fun e w' => e = .returned (.slice A0 y377.length c0) ∧ W = w') from fun W => by have h_ := catchmentlaw12_BufferAdds_few_read A0 c0 l0 HC0.out W; rw [hji3, ← Ny377.out] at h_; exact h_.mono fun _ _ h => ⟨h.1, h.2.symm⟩)
      have HFEW1 := Aside0.mk (show ∀ W : World, Calls Try.prog 24 #[.slice A1 l1.length c1] W (fun e w' => e = .returned (.slice A1 y381.length c1) ∧ W = w') from fun W => by have h_ := catchmentlaw12_BufferAdds_few_read A1 c1 l1 HC1.out W; rw [hji6, ← Ny381.out] at h_; exact h_.mono fun _ _ h => ⟨h.1, h.2.symm⟩)
      go_enter Try.func6, Try.ntmps6
      go_upto_region 5 with (first | (go_at_call 24; (first | refine (HFEW0.out _).mono ?_ | refine (HFEW1.out _).mono ?_); rintro e w_ ⟨rfl, rfl⟩) | ((with_reducible refine gate_callee (f := 25) rfl ?_); refine goesL_ (some 12) rfl rfl Try.func25 (by kernel_rfl) rfl #[.slice A0 y377.length c0] rfl (by (try simp only [List.map_toArray, List.map_cons, List.map_nil]); first | done | rfl | (simp only [List.length_drop, List.length_take]; rfl)) ?_; (with_reducible refine (catchmentref12_Right.calls k _ _ y377 true _ ?side1 ?side2 A9.out).mono ?_); (case side1 => exact q48_0); (case side2 => exact HC380.out); rintro e w15 ⟨rfl, hb⟩; refine ⟨_, rfl, ?_⟩; have n0_ := Aside0.mk (below_step (q48_1) hb); clear HB; have HB := n0_; clear n0_; (try clear hb); (try clear hb2); (try clear hk); (try clear hi)) | ((with_reducible refine gate_callee (f := 27) rfl ?_); refine goesL_ (some 17) rfl rfl Try.func27 (by kernel_rfl) rfl #[.slice A0 y377.length c0, .slice A1 y381.length c1] rfl (by (try simp only [List.map_toArray, List.map_cons, List.map_nil]); first | done | rfl | (simp only [List.length_drop, List.length_take]; rfl)) ?_; (with_reducible refine (buffer_Add.calls k (fun k_ => k_ < w.heap.size) _ _ y377 (fun k_ => k_ < w.heap.size) _ _ y381 t387 _ ?side1 ?side2 A11.out).mono ?_); (case side1 => exact Kd.V_mk HC380.out (Kd.F_below (Kd.C_F k46_heap HR380.out) (q48_1))); (case side2 => exact Kd.V_mk HC384.out (Kd.F_below (Kd.C_F k46_heap HR384.out) (q48_1))); rintro e w16 ⟨v388, rfl, ho0, hb⟩; refine ⟨_, rfl, ?_⟩; have n0_ := Aside0.mk (Kd.R_lower (Kd.R_mono (ok' := fun k_ => True) ho0 (fun _ hk_ => trivial)) (below_size (q48_1))); have n1_ := Aside0.mk (below_step (q48_1) hb); clear HB; have HO389 := n0_; have HB := n1_; clear n0_ n1_; (try clear hb); (try clear hb2); (try clear hk); (try clear hi); (try clear ho0)))
      (try simp only [Act.put, List.setIfInBounds_toArray, List.set_cons_zero, List.set_cons_succ])
      go_cut [33] (fun v33 wc => ∃ (kq : Nat) (x33_11 : Bool), v33 = .bool x33_11 ∧ Aside0 (catchmentlaw12_BufferAdds.j0 kq t387 x33_11 = some r) ∧ Aside0 (kq ≤ k) ∧ Aside0 (Kd.R k46 46 wc w.heap.size (fun _ => True) v388 t387) ∧ Aside0 (Below w.heap.size w wc))
      case first =>
       have H := HC12.out
       clear HC12
       replace H := Option.bind_eq_some_iff.mp H
       obtain ⟨t390, A170, H⟩ := H
       replace H : ((catchmentref04_Same.f k t387 t390).bind fun t393 => (if t393 = true then (catchmentlaw12_BufferAdds.j0 k t387 ((t387.length : Int) != (wrap64 ((y377.length : Int) + (y381.length : Int))))) else (catchmentlaw12_BufferAdds.j0 k t387 true))) = some r := H
       have A17 := Aside0.mk A170
       clear A170
       replace H := Option.bind_eq_some_iff.mp H
       obtain ⟨t393, A180, H⟩ := H
       replace H : (if t393 = true then (catchmentlaw12_BufferAdds.j0 k t387 ((t387.length : Int) != (wrap64 ((y377.length : Int) + (y381.length : Int))))) else (catchmentlaw12_BufferAdds.j0 k t387 true)) = some r := H
       have A18 := Aside0.mk A180
       clear A180
       by_cases c19 : t393 = true
       ·subst c19
        have H1 : (catchmentlaw12_BufferAdds.j0 k t387 ((t387.length : Int) != (wrap64 ((y377.length : Int) + (y381.length : Int))))) = some r := by rw [if_pos rfl] at H; exact H
        clear H
        have H := H1
        clear H1
        have H' := Aside0.mk H
        clear H
        go_wp2_with (first | ((with_reducible refine gate_callee (f := 29) rfl ?_); refine goesL_ (some 21) rfl rfl Try.func29 (by kernel_rfl) rfl #[.slice A0 y377.length c0, .slice A1 y381.length c1] rfl (by (try simp only [List.map_toArray, List.map_cons, List.map_nil]); first | done | rfl | (simp only [List.length_drop, List.length_take]; rfl)) ?_; (with_reducible refine (catchmentref12_Add.calls k _ _ y377 _ _ y381 t390 _ ?side1 ?side2 ?side3 ?side4 A17.out).mono ?_); (case side1 => exact q48_2); (case side2 => exact HC380.out); (case side3 => exact q48_3); (case side4 => exact HC384.out); rintro e w20 ⟨v391, rfl, ho0, hb⟩; refine ⟨_, rfl, ?_⟩; have n0_ := Aside0.mk (Kd.R_elder' (q48_4) (Kd.R_base ho0) hb); have n1_ := Aside0.mk (Kd.R_lower (Kd.R_new' ho0 (Kd.R_lt (q48_4))) (below_size (q48_1))); have n2_ := Aside0.mk (below_step (q48_1) hb); clear HO389; clear HB; have HO389 := n0_; have HO392 := n1_; have HB := n2_; clear n0_ n1_ n2_; (try clear hb); (try clear hb2); (try clear hk); (try clear hi); (try clear ho0); obtain ⟨Ao21, co21, eo21⟩ := Kd.R_slice HO389.out; subst eo21; obtain ⟨Ao22, co22, eo22⟩ := Kd.R_slice HO392.out; subst eo22) | ((with_reducible refine gate_callee (f := 28) rfl ?_); refine goesL_ (some 22) rfl rfl Try.func28 (by kernel_rfl) rfl #[.slice Ao21 t387.length co21, .slice Ao22 t390.length co22] rfl (by (try simp only [List.map_toArray, List.map_cons, List.map_nil]); first | done | rfl | (simp only [List.length_drop, List.length_take]; rfl)) ?_; (with_reducible refine (catchmentref04_Same.calls k _ _ t387 _ _ t390 true _ ?side1 ?side2 ?side3 ?side4 A18.out).mono ?_); (case side1 => exact q48_5); (case side2 => exact (Kd.R_reads' HO389.out).2.1); (case side3 => exact q48_6); (case side4 => exact (Kd.R_reads' HO392.out).2.1); rintro e w' ⟨rfl, ⟨nd, rfl⟩⟩; refine ⟨_, rfl, ?_⟩))
        go_meet
        case rel => exact ⟨_, (((t387.length : Int) != (wrap64 ((y377.length : Int) + (y381.length : Int))))), (by first | rfl | (simp; done) | (simp [*]; done)), H', ⟨by first | omega | exact Nat.le_refl _⟩, ⟨q48_7⟩, ⟨q48_1⟩⟩
       ·replace c19 := Bool.eq_false_iff.mpr c19
        subst c19
        have H1 : (catchmentlaw12_BufferAdds.j0 k t387 true) = some r := by rw [if_neg (show ¬ (false = true) by decide)] at H; exact H
        clear H
        have H := H1
        clear H1
        have H' := Aside0.mk H
        clear H
        go_wp2_with (first | ((with_reducible refine gate_callee (f := 29) rfl ?_); refine goesL_ (some 21) rfl rfl Try.func29 (by kernel_rfl) rfl #[.slice A0 y377.length c0, .slice A1 y381.length c1] rfl (by (try simp only [List.map_toArray, List.map_cons, List.map_nil]); first | done | rfl | (simp only [List.length_drop, List.length_take]; rfl)) ?_; (with_reducible refine (catchmentref12_Add.calls k _ _ y377 _ _ y381 t390 _ ?side1 ?side2 ?side3 ?side4 A17.out).mono ?_); (case side1 => exact q48_2); (case side2 => exact HC380.out); (case side3 => exact q48_3); (case side4 => exact HC384.out); rintro e w23 ⟨v391, rfl, ho0, hb⟩; refine ⟨_, rfl, ?_⟩; have n0_ := Aside0.mk (Kd.R_elder' (q48_4) (Kd.R_base ho0) hb); have n1_ := Aside0.mk (Kd.R_lower (Kd.R_new' ho0 (Kd.R_lt (q48_4))) (below_size (q48_1))); have n2_ := Aside0.mk (below_step (q48_1) hb); clear HO389; clear HB; have HO389 := n0_; have HO392 := n1_; have HB := n2_; clear n0_ n1_ n2_; (try clear hb); (try clear hb2); (try clear hk); (try clear hi); (try clear ho0); obtain ⟨Ao24, co24, eo24⟩ := Kd.R_slice HO389.out; subst eo24; obtain ⟨Ao25, co25, eo25⟩ := Kd.R_slice HO392.out; subst eo25) | ((with_reducible refine gate_callee (f := 28) rfl ?_); refine goesL_ (some 22) rfl rfl Try.func28 (by kernel_rfl) rfl #[.slice Ao24 t387.length co24, .slice Ao25 t390.length co25] rfl (by (try simp only [List.map_toArray, List.map_cons, List.map_nil]); first | done | rfl | (simp only [List.length_drop, List.length_take]; rfl)) ?_; (with_reducible refine (catchmentref04_Same.calls k _ _ t387 _ _ t390 false _ ?side1 ?side2 ?side3 ?side4 A18.out).mono ?_); (case side1 => exact q48_5); (case side2 => exact (Kd.R_reads' HO389.out).2.1); (case side3 => exact q48_6); (case side4 => exact (Kd.R_reads' HO392.out).2.1); rintro e w' ⟨rfl, ⟨nd, rfl⟩⟩; refine ⟨_, rfl, ?_⟩))
        go_meet
        case rel => exact ⟨_, (true), (by first | rfl | (simp; done) | (simp [*]; done)), H', ⟨by first | omega | exact Nat.le_refl _⟩, ⟨q48_7⟩, ⟨q48_1⟩⟩
      case rest =>
       clear HC12
       try clear c1
       try clear q1
       try clear c2
       try clear p2
       try clear c4
       try clear c4b0
       try clear c4b1
       try clear c5
       try clear c5b0
       try clear c5b1
       try clear c6
       try clear p6
       try clear c7
       try clear c7b0
       try clear c7b1
       try clear c8
       try clear c8b0
       try clear c8b1
       try clear c10
       try clear q13
       try clear q14
       try clear c19
       try clear c25
       try clear q13
       try clear q14
       obtain ⟨kq, x33_11, rfl, HA, HJ11, HO_5, HB⟩ := hcut
       cases kq with
       | zero => exact absurd HA.out (by simp [catchmentlaw12_BufferAdds.j0])
       | succ kj11 =>
        have H := HA.out
        clear HA
        simp only [catchmentlaw12_BufferAdds.j0] at H
        by_cases c26 : x33_11 = true
        ·subst c26
         have H1 : (none) = some r := by rw [if_pos rfl] at H; exact H
         clear H
         have H := H1
         clear H1
         exact absurd H (by simp)
        ·replace c26 := Bool.eq_false_iff.mpr c26
         subst c26
         have H1 : (catchmentlaw12_BufferAdds.l0 kj11 t387 1) = some r := by rw [if_neg (show ¬ (false = true) by decide)] at H; exact H
         clear H
         have H := H1
         clear H1
         have H' := Aside0.mk H
         clear H
         go_wp2
         go_loopg [6] kj11 (fun kq v6 w' => ∃ (x6_2 : Int), v6 = .int .i64 x6_2 ∧ Aside0 (catchmentlaw12_BufferAdds.l0 kq t387 x6_2 = some r) ∧ Aside0 (kq ≤ kj11) ∧ Aside0 (Kd.R k46 46 w' w.heap.size (fun _ => True) v388 t387) ∧ Aside0 (Below w.heap.size w w'))
         case atStart => exact ⟨(1), (by first | rfl | (simp; done) | (simp [*]; done)), H', ⟨Nat.le_refl _⟩, ⟨q48_8⟩, ⟨q48_1⟩⟩
         case round =>
          clear H'
          try clear c1
          try clear q1
          try clear c2
          try clear p2
          try clear c4
          try clear c4b0
          try clear c4b1
          try clear c5
          try clear c5b0
          try clear c5b1
          try clear c6
          try clear p6
          try clear c7
          try clear c7b0
          try clear c7b1
          try clear c8
          try clear c8b0
          try clear c8b1
          try clear c10
          try clear q13
          try clear q14
          try clear c19
          try clear c25
          try clear c26
          try clear p2
          try clear p6
          try clear q1
          try clear q13
          try clear q14
          obtain ⟨x6_2, rfl, HA, HK2, HO_5, HB⟩ := hrel
          cases gk with
          | zero => exact absurd HA.out (by simp [catchmentlaw12_BufferAdds.l0])
          | succ k2 =>
           have H := HA.out
           clear HA
           simp only [catchmentlaw12_BufferAdds.l0] at H
           by_cases c27 : x6_2 < (t387.length : Int)
           ·rw [if_pos c27] at H
            have c27b0 : decide (x6_2 < (t387.length : Int)) = true := decide_eq_true c27
            clear c27
            by_cases c28 : 0 ≤ x6_2
            ·rw [if_pos c28] at H
             have c28b0 : decide (0 ≤ x6_2) = true := decide_eq_true c28
             clear c28
             obtain ⟨ji29, hji29⟩ : ∃ j_ : Int, (wrap64 (x6_2 - 1)) = j_ := ⟨_, rfl⟩
             replace H : (if 0 ≤ (ji29) then (if (ji29) < (t387.length : Int) then ((catchmentref12_Ahead.f ((rd_T46 t387 x6_2).f0) ((rd_T46 t387 x6_2).f1) ((rd_T46 t387 x6_2).f2) ((rd_T46 t387 x6_2).f3) ((rd_T46 t387 x6_2).f4) ((rd_T46 t387 x6_2).f5) ((rd_T46 t387 (ji29)).f0) ((rd_T46 t387 (ji29)).f1) ((rd_T46 t387 (ji29)).f2) ((rd_T46 t387 (ji29)).f3) ((rd_T46 t387 (ji29)).f4) ((rd_T46 t387 (ji29)).f5)).bind fun t396 => (if t396 = true then (none) else (catchmentlaw12_BufferAdds.l0 k2 t387 (wrap64 (x6_2 + 1))))) else (none)) else (none)) = some r := by first | (rw [hji29] at H; exact H) | (simp only [hji29] at H ⊢; exact H)
             have hji29w : (IntKind.i64.wrap (x6_2 - 1)) = ji29 := (i64_w _).trans hji29
             by_cases c30 : 0 ≤ (ji29)
             ·rw [if_pos c30] at H
              have c30b0 : decide (0 ≤ (ji29)) = true := decide_eq_true c30
              clear c30
              by_cases c31 : (ji29) < (t387.length : Int)
              ·rw [if_pos c31] at H
               have c31b0 : decide ((ji29) < (t387.length : Int)) = true := decide_eq_true c31
               clear c31
               replace H := Option.bind_eq_some_iff.mp H
               obtain ⟨t396, A320, H⟩ := H
               replace H : (if t396 = true then (none) else (catchmentlaw12_BufferAdds.l0 k2 t387 (wrap64 (x6_2 + 1)))) = some r := H
               have A32 := Aside0.mk A320
               clear A320
               by_cases c33 : t396 = true
               ·subst c33
                have H1 : (none) = some r := by rw [if_pos rfl] at H; exact H
                clear H
                have H := H1
                clear H1
                exact absurd H (by simp)
               ·replace c33 := Bool.eq_false_iff.mpr c33
                subst c33
                have H1 : (catchmentlaw12_BufferAdds.l0 k2 t387 (wrap64 (x6_2 + 1))) = some r := by rw [if_neg (show ¬ (false = true) by decide)] at H; exact H
                clear H
                have H := H1
                clear H1
                have H' := Aside0.mk H
                clear H
                obtain ⟨Ao34, co34, eo34⟩ := Kd.R_slice HO_5.out
                subst eo34
                try go_wp2
                have n0_ := Aside0.mk (Kd.R_drew HO_5.out)
                have n1_ := Aside0.mk (below_drew1 HB.out)
                clear HO_5 HB
                have HO_5 := n0_
                have HB := n1_
                clear n0_ n1_
                have p394 : 0 ≤ (x6_2 : Int) := of_decide_eq_true (by first | (with_reducible assumption) | assumption)
                have q394 : x6_2 < (t387.length : Int) := of_decide_eq_true (by first | (with_reducible assumption) | assumption)
                obtain ⟨ad394, e394, hx394_0, hx394_1, hx394_2, hx394_3, hx394_4, hx394_5⟩ := at_T46 (Kd.R_reads' HO_5.out).2.2 x6_2 p394 q394
                cases e394
                replace p394 := eq_true p394
                replace q394 := eq_true q394
                have p395 : 0 ≤ ((ji29) : Int) := of_decide_eq_true (by first | (with_reducible assumption) | assumption)
                have q395 : (ji29) < (t387.length : Int) := of_decide_eq_true (by first | (with_reducible assumption) | assumption)
                obtain ⟨ad395, e395, hx395_0, hx395_1, hx395_2, hx395_3, hx395_4, hx395_5⟩ := at_T46 (Kd.R_reads' HO_5.out).2.2 (ji29) p395 q395
                obtain rfl : ad394 = ad395 := (by injection e395)
                replace p395 := eq_true p395
                replace q395 := eq_true q395
                refine start_ (n := 10) (S := fun w' => w'.cell? (ad394.add ((x6_2).toNat * 6)) = some (.int .u8 ((rd_T46 t387 x6_2).f0)) ∧ w'.cell? ⟨(ad394.add ((x6_2).toNat * 6)).block, (ad394.add ((x6_2).toNat * 6)).off + 1, none⟩ = some (.int .i64 ((rd_T46 t387 x6_2).f1)) ∧ w'.cell? ⟨(ad394.add ((x6_2).toNat * 6)).block, (ad394.add ((x6_2).toNat * 6)).off + 2, none⟩ = some (.string ((rd_T46 t387 x6_2).f2)) ∧ w'.cell? ⟨(ad394.add ((x6_2).toNat * 6)).block, (ad394.add ((x6_2).toNat * 6)).off + 3, none⟩ = some (.string ((rd_T46 t387 x6_2).f3)) ∧ w'.cell? ⟨(ad394.add ((x6_2).toNat * 6)).block, (ad394.add ((x6_2).toNat * 6)).off + 4, none⟩ = some (.string ((rd_T46 t387 x6_2).f4)) ∧ w'.cell? ⟨(ad394.add ((x6_2).toNat * 6)).block, (ad394.add ((x6_2).toNat * 6)).off + 5, none⟩ = some (.int .u64 ((rd_T46 t387 x6_2).f5)) ∧ w'.cell? (ad394.add (((ji29)).toNat * 6)) = some (.int .u8 ((rd_T46 t387 (ji29)).f0)) ∧ w'.cell? ⟨(ad394.add (((ji29)).toNat * 6)).block, (ad394.add (((ji29)).toNat * 6)).off + 1, none⟩ = some (.int .i64 ((rd_T46 t387 (ji29)).f1)) ∧ w'.cell? ⟨(ad394.add (((ji29)).toNat * 6)).block, (ad394.add (((ji29)).toNat * 6)).off + 2, none⟩ = some (.string ((rd_T46 t387 (ji29)).f2)) ∧ w'.cell? ⟨(ad394.add (((ji29)).toNat * 6)).block, (ad394.add (((ji29)).toNat * 6)).off + 3, none⟩ = some (.string ((rd_T46 t387 (ji29)).f3)) ∧ w'.cell? ⟨(ad394.add (((ji29)).toNat * 6)).block, (ad394.add (((ji29)).toNat * 6)).off + 4, none⟩ = some (.string ((rd_T46 t387 (ji29)).f4)) ∧ w'.cell? ⟨(ad394.add (((ji29)).toNat * 6)).block, (ad394.add (((ji29)).toNat * 6)).off + 5, none⟩ = some (.int .u64 ((rd_T46 t387 (ji29)).f5))) (ds := []) #[false, false, false, false, false, false, false, false, false, false] (by kernel_rfl) rfl rfl ⟨hx394_0, hx394_1, hx394_2, hx394_3, hx394_4, hx394_5, hx395_0, hx395_1, hx395_2, hx395_3, hx395_4, hx395_5⟩ (fun hHeld => ?_); refine with_tabW catchmentlaw12_BufferAdds.tab10 catchmentlaw12_BufferAdds.bits10 (fun HT_ HW_ => ?_)
                generalize wr.drew = w35 at HO_5 HB hx394_0 hx394_1 hx394_2 hx394_3 hx394_4 hx394_5 hx395_0 hx395_1 hx395_2 hx395_3 hx395_4 hx395_5 hHeld ⊢
                refine pure_ (i := 0) (N := some 40) (v := ?_) (a' := ?_) #[true, false, false, false, false, false, false, false, false, false] rfl rfl (any_of HT_.out (by kernel_rfl)) (fun _ _ _ h => h) (Or.inl ⟨by rfl, ?_⟩) ?_ ?_
                rotate_left
                ·intro w'
                 go_simp
                 with_reducible rfl
                rotate_left
                ·simp only [pt_, pn_, sz_, ss_, i64_w, i32_w]
                 rfl
                refine pure_ (i := 1) (N := some 41) (v := ?_) (a' := ?_) #[true, true, false, false, false, false, false, false, false, false] rfl rfl (any_of HT_.out (by kernel_rfl)) (fun _ _ _ h => h) (Or.inl ⟨by rfl, ?_⟩) ?_ ?_
                rotate_left
                ·intro w'
                 go_simp
                 with_reducible rfl
                rotate_left
                ·simp only [pt_, pn_, sz_, ss_, i64_w, i32_w]
                 rfl
                refine pure_ (i := 2) (N := some 42) (v := ?_) (a' := ?_) #[true, true, true, false, false, false, false, false, false, false] rfl rfl (any_of HT_.out (by kernel_rfl)) (fun _ _ _ h => h) (Or.inl ⟨by rfl, ?_⟩) ?_ ?_
                rotate_left
                ·intro w'
                 go_simp
                 with_reducible rfl
                rotate_left
                ·simp only [pt_, pn_, sz_, ss_, i64_w, i32_w]
                 rfl
                refine pure_ (i := 4) (N := some 44) (v := ?_) (a' := ?_) #[true, true, true, false, true, false, false, false, false, false] rfl rfl (any_of HT_.out (by kernel_rfl)) (fun _ _ _ h => h) (Or.inl ⟨by rfl, ?_⟩) ?_ ?_
                rotate_left
                ·intro w'
                 go_simp
                 with_reducible rfl
                rotate_left
                ·simp only [pt_, pn_, sz_, ss_, i64_w, i32_w]
                 rfl
                refine pure_ (i := 5) (N := some 45) (v := ?_) (a' := ?_) #[true, true, true, false, true, true, false, false, false, false] rfl rfl (any_of HT_.out (by kernel_rfl)) (fun _ _ _ h => h) (Or.inl ⟨by rfl, ?_⟩) ?_ ?_
                rotate_left
                ·intro w'
                 go_simp
                 with_reducible rfl
                rotate_left
                ·simp only [pt_, pn_, sz_, ss_, i64_w, i32_w]
                 rfl
                refine pure_ (i := 6) (N := some 46) (v := ?_) (a' := ?_) #[true, true, true, false, true, true, true, false, false, false] rfl rfl (any_of HT_.out (by kernel_rfl)) (fun _ _ _ h => h) (Or.inl ⟨by rfl, ?_⟩) ?_ ?_
                rotate_left
                ·intro w'
                 go_simp
                 with_reducible rfl
                rotate_left
                ·simp only [pt_, pn_, sz_, ss_, i64_w, i32_w]
                 rfl
                refine pure_ (i := 7) (N := some 47) (v := ?_) (a' := ?_) #[true, true, true, false, true, true, true, true, false, false] rfl rfl (any_of HT_.out (by kernel_rfl)) (fun _ _ _ h => h) (Or.inl ⟨by rfl, ?_⟩) ?_ ?_
                rotate_left
                ·intro w'
                 go_simp
                 with_reducible rfl
                rotate_left
                ·simp only [pt_, pn_, sz_, ss_, i64_w, i32_w]
                 rfl
                refine take_ (i := 3) (N := some 43) (v := ?_) (a' := ?_) #[true, true, true, true, true, true, true, true, false, false] rfl rfl (take_ofW HT_.out HW_.out (by kernel_rfl)) (fun _ _ _ h => h) (Or.inl ⟨by rfl, ?_⟩) hHeld ?_ ?_
                rotate_left
                ·rintro w' ⟨s0, s1, s2, s3, s4, s5, s6, s7, s8, s9, s10, s11⟩
                 go_simp
                 with_reducible rfl
                rotate_left
                ·simp only [pt_, pn_, sz_, ss_, i64_w, i32_w]
                 rfl
                refine take_ (i := 8) (N := some 48) (v := ?_) (a' := ?_) #[true, true, true, true, true, true, true, true, true, false] rfl rfl (take_ofW HT_.out HW_.out (by kernel_rfl)) (fun _ _ _ h => h) (Or.inl ⟨by rfl, ?_⟩) hHeld ?_ ?_
                rotate_left
                ·rintro w' ⟨s0, s1, s2, s3, s4, s5, s6, s7, s8, s9, s10, s11⟩
                 go_simp
                 with_reducible rfl
                rotate_left
                ·simp only [pt_, pn_, sz_, ss_, i64_w, i32_w]
                 rfl
                refine one_ (i := 9) (N := some 49) #[true, true, true, true, true, true, true, true, true, true] rfl rfl (one_of HT_.out (by kernel_rfl)) (by decide) (fun K hK => ?_)
                refine goes_ Try.func30 (by kernel_rfl) rfl #[.agg #[.int .u8 ((rd_T46 t387 x6_2).f0), .int .i64 ((rd_T46 t387 x6_2).f1), .string ((rd_T46 t387 x6_2).f2), .string ((rd_T46 t387 x6_2).f3), .string ((rd_T46 t387 x6_2).f4), .int .u64 ((rd_T46 t387 x6_2).f5)], .agg #[.int .u8 ((rd_T46 t387 (ji29)).f0), .int .i64 ((rd_T46 t387 (ji29)).f1), .string ((rd_T46 t387 (ji29)).f2), .string ((rd_T46 t387 (ji29)).f3), .string ((rd_T46 t387 (ji29)).f4), .int .u64 ((rd_T46 t387 (ji29)).f5)]] (by rfl) rfl rfl (by (try simp only [List.map_toArray, List.map_cons, List.map_nil]); first | done | (simp only [hji29]; rfl) | rfl | (simp only [List.length_drop, List.length_take]; rfl)) ?_
                with_reducible refine (catchmentref12_Ahead.calls ((rd_T46 t387 x6_2).f0) ((rd_T46 t387 x6_2).f1) ((rd_T46 t387 x6_2).f2) ((rd_T46 t387 x6_2).f3) ((rd_T46 t387 x6_2).f4) ((rd_T46 t387 x6_2).f5) ((rd_T46 t387 (ji29)).f0) ((rd_T46 t387 (ji29)).f1) ((rd_T46 t387 (ji29)).f2) ((rd_T46 t387 (ji29)).f3) ((rd_T46 t387 (ji29)).f4) ((rd_T46 t387 (ji29)).f5) false _ A32.out).mono ?_
                rintro e w36 ⟨rfl, hb⟩
                have HS0_ := (hb.cell (World.block_lt_of_cell? _ _ (hHeld.1))).trans (hHeld.1)
                have HS1_ := (hb.cell (World.block_lt_of_cell? _ _ (hHeld.2.1))).trans (hHeld.2.1)
                have HS2_ := (hb.cell (World.block_lt_of_cell? _ _ (hHeld.2.2.1))).trans (hHeld.2.2.1)
                have HS3_ := (hb.cell (World.block_lt_of_cell? _ _ (hHeld.2.2.2.1))).trans (hHeld.2.2.2.1)
                have HS4_ := (hb.cell (World.block_lt_of_cell? _ _ (hHeld.2.2.2.2.1))).trans (hHeld.2.2.2.2.1)
                have HS5_ := (hb.cell (World.block_lt_of_cell? _ _ (hHeld.2.2.2.2.2.1))).trans (hHeld.2.2.2.2.2.1)
                have HS6_ := (hb.cell (World.block_lt_of_cell? _ _ (hHeld.2.2.2.2.2.2.1))).trans (hHeld.2.2.2.2.2.2.1)
                have HS7_ := (hb.cell (World.block_lt_of_cell? _ _ (hHeld.2.2.2.2.2.2.2.1))).trans (hHeld.2.2.2.2.2.2.2.1)
                have HS8_ := (hb.cell (World.block_lt_of_cell? _ _ (hHeld.2.2.2.2.2.2.2.2.1))).trans (hHeld.2.2.2.2.2.2.2.2.1)
                have HS9_ := (hb.cell (World.block_lt_of_cell? _ _ (hHeld.2.2.2.2.2.2.2.2.2.1))).trans (hHeld.2.2.2.2.2.2.2.2.2.1)
                have HS10_ := (hb.cell (World.block_lt_of_cell? _ _ (hHeld.2.2.2.2.2.2.2.2.2.2.1))).trans (hHeld.2.2.2.2.2.2.2.2.2.2.1)
                have HS11_ := (hb.cell (World.block_lt_of_cell? _ _ (hHeld.2.2.2.2.2.2.2.2.2.2.2))).trans (hHeld.2.2.2.2.2.2.2.2.2.2.2)
                refine ⟨_, rfl, ?_⟩
                have n0_ := Aside0.mk (Kd.R_below (q48_8) hb)
                have n1_ := Aside0.mk (below_step (q48_1) hb)
                clear HO_5 HB
                have HO_5 := n0_
                have HB := n1_
                clear n0_ n1_
                (try clear hb)
                (try clear hb2)
                (try clear hk)
                (try clear hi)
                refine hK.out _ _ ⟨HS0_, HS1_, HS2_, HS3_, HS4_, HS5_, HS6_, HS7_, HS8_, HS9_, HS10_, HS11_⟩ (fun hHeld => ?_)
                clear hK K
                refine norm_ (a' := ?_) ?_ ?_
                rotate_left
                ·show Act.put _ (some 49) _ = _
                 simp only [pt_, pn_, sz_, ss_, i64_w, i32_w]
                 rfl
                refine done_ (done_of HT_.out (by kernel_rfl)) ?_
                try go_wp2
                go_roundg k2
                case measure => have := HJ11.out; have := HK2.out; omega
                case rel => exact ⟨(wrap64 (x6_2 + 1)), (by first | rfl | (simp; done) | (simp [*]; done)), H', ⟨by have := HJ11.out; have := HK2.out; omega⟩, ⟨q48_8⟩, ⟨q48_1⟩⟩
              ·rw [if_neg c31] at H
               exact absurd H (by simp)
             ·rw [if_neg c30] at H
              exact absurd H (by simp)
            ·rw [if_neg c28] at H
             exact absurd H (by simp)
           ·rw [if_neg c27] at H
            have c27b0 : decide (x6_2 < (t387.length : Int)) = false := decide_eq_false c27
            clear c27
            replace H := Option.bind_eq_some_iff.mp H
            obtain ⟨t397, A370, H⟩ := H
            replace H : (some t397) = some r := H
            have A37 := Aside0.mk A370
            clear A370
            obtain rfl := Option.some.inj H
            obtain ⟨Ao38, co38, eo38⟩ := Kd.R_slice HO_5.out
            subst eo38
            go_wp2_with (first | ((with_reducible refine gate_callee (f := 26) rfl ?_); refine goesL_ (some 50) rfl rfl Try.func26 (by kernel_rfl) rfl #[] rfl (by (try simp only [List.map_toArray, List.map_cons, List.map_nil]); first | done | rfl | (simp only [List.length_drop, List.length_take]; rfl)) ?_; (with_reducible refine (catchmentlaw12_live.calls k2  t397 _ A37.out).mono ?_); rintro e w39 ⟨rfl, hb⟩; refine ⟨_, rfl, ?_⟩; have n0_ := Aside0.mk (Kd.R_below (q48_8) hb); have n1_ := Aside0.mk (below_step (q48_1) hb); clear HO_5; clear HB; have HO_5 := n0_; have HB := n1_; clear n0_ n1_; (try clear hb); (try clear hb2); (try clear hk); (try clear hi)))
            go_ret
            exact ⟨by first | rfl | (simp [errW_none, errW_some] <;> rfl) | (simp only [← hji3, ← hji6]; first | rfl | (simp [errW_none, errW_some] <;> rfl)) | (simp [*, errW_none, errW_some] <;> rfl), q48_1⟩
     ·replace c10 := Bool.eq_false_iff.mpr c10
      subst c10
      have H1 : ((catchmentlaw12_live.f k).bind fun t386 => (some t386)) = some r := by rw [if_neg (show ¬ (false = true) by decide)] at H; exact H
      clear H
      have H := H1
      clear H1
      replace H := Option.bind_eq_some_iff.mp H
      obtain ⟨t386, A400, H⟩ := H
      replace H : (some t386) = some r := H
      have A40 := Aside0.mk A400
      clear A400
      obtain rfl := Option.some.inj H
      have q41 : ((ji3) : Int) ≤ ((l0.length : Int) : Int) := of_decide_eq_true (by first | (with_reducible assumption) | assumption)
      obtain ⟨i041, hi041, _, hsz41, _⟩ := info_parts info46
      have hroom41 : l0.length ≤ c0 := HC0.out
      have hC41 : Kd.C k46 _ A0 l0.length l0 := HR0.out
      have hcut41 := cut_to (P := Try.prog) 36 46 .i64 Try.underlying36 hi041 A0 l0.length c0 (ji3) (of_decide_eq_true (by first | (with_reducible assumption) | assumption)) q41 hroom41
      have hr41 := Kd.C_take (m := ((ji3) : Int).toNat) hC41 (by omega)
      have hy41 : y377.length = ((ji3) : Int).toNat := (by rw [Ny377.out, List.length_take]; omega)
      rw [← Ny377.out] at hr41
      rw [← hy41] at hcut41
      have HR380 := Aside0.mk hr41
      have HC380 := Aside0.mk (show y377.length ≤ c0 from by omega)
      clear hr41 hC41 hroom41 hi041 hsz41
      have KY41 := Aside0.mk hy41
      clear hy41
      replace q41 := eq_true q41
      have q42 : ((ji6) : Int) ≤ ((l1.length : Int) : Int) := of_decide_eq_true (by first | (with_reducible assumption) | assumption)
      obtain ⟨i042, hi042, _, hsz42, _⟩ := info_parts info46
      have hroom42 : l1.length ≤ c1 := HC1.out
      have hC42 : Kd.C k46 _ A1 l1.length l1 := HR1.out
      have hcut42 := cut_to (P := Try.prog) 36 46 .i64 Try.underlying36 hi042 A1 l1.length c1 (ji6) (of_decide_eq_true (by first | (with_reducible assumption) | assumption)) q42 hroom42
      have hr42 := Kd.C_take (m := ((ji6) : Int).toNat) hC42 (by omega)
      have hy42 : y381.length = ((ji6) : Int).toNat := (by rw [Ny381.out, List.length_take]; omega)
      rw [← Ny381.out] at hr42
      rw [← hy42] at hcut42
      have HR384 := Aside0.mk hr42
      have HC384 := Aside0.mk (show y381.length ≤ c1 from by omega)
      clear hr42 hC42 hroom42 hi042 hsz42
      have KY42 := Aside0.mk hy42
      clear hy42
      replace q42 := eq_true q42
      have HFEW0 := Aside0.mk (show ∀ W : World, Calls Try.prog 24 #[.slice A0 l0.length c0] W (fun e w' => e = .returned (.slice A0 y377.length c0) ∧ W = w') from fun W => by have h_ := catchmentlaw12_BufferAdds_few_read A0 c0 l0 HC0.out W; rw [hji3, ← Ny377.out] at h_; exact h_.mono fun _ _ h => ⟨h.1, h.2.symm⟩)
      have HFEW1 := Aside0.mk (show ∀ W : World, Calls Try.prog 24 #[.slice A1 l1.length c1] W (fun e w' => e = .returned (.slice A1 y381.length c1) ∧ W = w') from fun W => by have h_ := catchmentlaw12_BufferAdds_few_read A1 c1 l1 HC1.out W; rw [hji6, ← Ny381.out] at h_; exact h_.mono fun _ _ h => ⟨h.1, h.2.symm⟩)
      go_enter Try.func6, Try.ntmps6
      go_wp2_with (first | (go_at_call 24; (first | refine (HFEW0.out _).mono ?_ | refine (HFEW1.out _).mono ?_); rintro e w_ ⟨rfl, rfl⟩) | ((with_reducible refine gate_callee (f := 25) rfl ?_); refine goesL_ (some 12) rfl rfl Try.func25 (by kernel_rfl) rfl #[.slice A0 y377.length c0] rfl (by (try simp only [List.map_toArray, List.map_cons, List.map_nil]); first | done | rfl | (simp only [List.length_drop, List.length_take]; rfl)) ?_; (with_reducible refine (catchmentref12_Right.calls k _ _ y377 false _ ?side1 ?side2 A9.out).mono ?_); (case side1 => exact q48_0); (case side2 => exact HC380.out); rintro e w43 ⟨rfl, hb⟩; refine ⟨_, rfl, ?_⟩; have n0_ := Aside0.mk (below_step (q48_1) hb); clear HB; have HB := n0_; clear n0_; (try clear hb); (try clear hb2); (try clear hk); (try clear hi)) | ((with_reducible refine gate_callee (f := 26) rfl ?_); refine goesL_ (some 14) rfl rfl Try.func26 (by kernel_rfl) rfl #[] rfl (by (try simp only [List.map_toArray, List.map_cons, List.map_nil]); first | done | rfl | (simp only [List.length_drop, List.length_take]; rfl)) ?_; (with_reducible refine (catchmentlaw12_live.calls k  t386 _ A40.out).mono ?_); rintro e w44 ⟨rfl, hb⟩; refine ⟨_, rfl, ?_⟩; have n0_ := Aside0.mk (below_step (q48_1) hb); clear HB; have HB := n0_; clear n0_; (try clear hb); (try clear hb2); (try clear hk); (try clear hi)))
      go_ret
      exact ⟨by first | rfl | (simp [errW_none, errW_some] <;> rfl) | (simp only [← hji3, ← hji6]; first | rfl | (simp [errW_none, errW_some] <;> rfl)) | (simp [*, errW_none, errW_some] <;> rfl), q48_1⟩
    ·rw [if_neg c8] at H
     exact absurd H (by simp)
   ·rw [if_neg c7] at H
    exact absurd H (by simp)
  ·rw [if_neg c5] at H
   exact absurd H (by simp)
 ·rw [if_neg c4] at H
  exact absurd H (by simp)
def ok46 (y : S46) : Prop := (fun x : Int => (Lit.int .u8 x).wf = true) y.f0 ∧ (fun x : Int => (Lit.int .i64 x).wf = true) y.f1 ∧ (fun s : ByteArray => s.size ≤ 140737488351232) y.f2 ∧ (fun s : ByteArray => s.size ≤ 140737488351232) y.f3 ∧ (fun s : ByteArray => s.size ≤ 140737488351232) y.f4 ∧ (fun x : Int => (Lit.int .u64 x).wf = true) y.f5
/-- THE ONE PURE STATEMENT of catchmentlaw12_BufferAdds. -/
def catchmentlaw12_BufferAdds.Pure : Prop := ∀ (l0 : List (S46)) (l1 : List (S46)), (fun xs : List (S46) => xs.length ≤ maxLen ∧ xs.length * 72 ≤ 140737488351232 ∧ ∀ x ∈ xs, ok46 x) l0 → (fun xs : List (S46) => xs.length ≤ maxLen ∧ xs.length * 72 ≤ 140737488351232 ∧ ∀ x ∈ xs, ok46 x) l1 → ∃ k, catchmentlaw12_BufferAdds.f k l0 l1 = some true
theorem catchmentlaw12_BufferAdds.walk (P : catchmentlaw12_BufferAdds.Pure) (A0 : Option Addr) (c0 : Nat) (l0 : List (S46)) (A1 : Option Addr) (c1 : Nat) (l1 : List (S46)) (w : World) (hr0 : Kd.C k46 w A0 l0.length l0) (hc0 : l0.length ≤ c0) (hr1 : Kd.C k46 w A1 l1.length l1) (hc1 : l1.length ≤ c1) (ok_0 : (fun xs : List (S46) => xs.length ≤ maxLen ∧ xs.length * 72 ≤ 140737488351232 ∧ ∀ x ∈ xs, ok46 x) l0) (ok_1 : (fun xs : List (S46) => xs.length ≤ maxLen ∧ xs.length * 72 ≤ 140737488351232 ∧ ∀ x ∈ xs, ok46 x) l1) :
  Calls Try.prog 6 #[.slice A0 l0.length c0, .slice A1 l1.length c1] w fun e w' => e = .returned (.bool true) ∧ Below w.heap.size w w' := by
 obtain ⟨k, h⟩ := P l0 l1 ok_0 ok_1
 refine (catchmentlaw12_BufferAdds.calls k A0 c0 l0 A1 c1 l1 true w hr0 hc0 hr1 hc1 h).mono ?_
 rintro e w' ⟨rfl, hd⟩
 exact ⟨rfl, hd⟩

end Go.Proofs.Ytnklnjghecmihaa.L2
