-- written by a program of this session (wip/myprint.py), over the kit's printer and the session's own contracts
import Derived.Test.YtgbnhfppnglamaaQ5x0
import Derived.Test.YtgbnhfppnglamaaQ5x1
import Derived.Test.YtgbnhfppnglamaaQ5x2
import Derived.Test.YtgbnhfppnglamaaQ5x3
import Derived.Test.YtgbnhfppnglamaaQ5x4
namespace Go.Proofs.Ytgbnhfppnglamaa.Q5
open Go.RowKit Go.Proofs.YtgbnhfppnglamaaW.PrintWords Go.Proofs.YtgbnhfppnglamaaW.PrintLast Go.Proofs.YtgbnhfppnglamaaW.PrintMore Go.Proofs.YtgbnhfppnglamaaW.Mine
attribute [local go_sem] max2_int min2_int max_two min_two max_three min_three max_four min_four max2_str min2_str binOp_gtr_str binOp_leq_str binOp_geq_str   -- for this text's walks alone
set_option linter.unusedVariables false
set_option linter.unusedSimpArgs false

attribute [local go_sem high] eqA80
/-! ### catchmentlaw13_PivotSplits: function 14 -/
mutual
def catchmentlaw13_PivotSplits.j0 : Nat → List ByteArray → ByteArray → Int → List ByteArray → Bool → Bool → ByteArray → ByteArray → Option (Bool)
  | 0, _, _, _, _, _, _, _, _ => none
  | k + 1, x0, x2, x7, x8, x9, x43, x196000, x196001 => if x43 = true then ((catchmentlaw13_live.f k).bind fun t205 => (if t205 = true then (some (((x8.length : Int) == 0) == (!x9))) else (none))) else ((catchmentlaw13_spans.f k x0 x196000 x196001).bind fun bt206 => ((catchmentlaw13_spans.f k x8 x196000 x196001).bind fun bt210 => (if (bt210.1.length : Int) = (wrap64 ((bt206.1.length : Int) + 1)) then (catchmentlaw13_PivotSplits.j1 k x0 x2 x7 x8 bt206.1 bt210.1 (decide (x7 ≥ (bt206.1.length : Int)))) else (catchmentlaw13_PivotSplits.j1 k x0 x2 x7 x8 bt206.1 bt210.1 true))))
def catchmentlaw13_PivotSplits.j1 : Nat → List ByteArray → ByteArray → Int → List ByteArray → List (S80) → List (S80) → Bool → Option (Bool)
  | 0, _, _, _, _, _, _, _ => none
  | k + 1, x0, x2, x7, x8, x10, x12, x76 => if x76 = true then (none) else (if 0 ≤ x7 then (if x7 < (x10.length : Int) then ((catchmentref02_Split.f ((rd_T80 x10 x7).f0) ((rd_T80 x10 x7).f1) x2).bind fun bt215 => ((pivot_Drop.f x8 x7).bind fun bt222 => ((catchmentlaw13_live.f k).bind fun t226 => (if t226 = true then (if bt215.2.2.2.2 = true then (if x7 < (x12.length : Int) then (if ((((rd_T80 x12 x7).f0).toList) == bt215.1.toList && ((((rd_T80 x12 x7).f1).toList) == bt215.2.1.toList)) = true then (if 0 ≤ (wrap64 (x7 + 1)) then (if (wrap64 (x7 + 1)) < (x12.length : Int) then (if ((((rd_T80 x12 (wrap64 (x7 + 1))).f0).toList) == bt215.2.2.1.toList && ((((rd_T80 x12 (wrap64 (x7 + 1))).f1).toList) == bt215.2.2.2.1.toList)) = true then (if x7 ≤ (x12.length : Int) then (if x7 ≤ (x10.length : Int) then ((catchmentref02_Same.f k (x12.take (x7 : Int).toNat) (x10.take (x7 : Int).toNat)).bind fun t237 => (if t237 = true then (if 0 ≤ (wrap64 (x7 + 2)) then (if (wrap64 (x7 + 2)) ≤ (x12.length : Int) then (if (wrap64 (x7 + 1)) ≤ (x10.length : Int) then ((catchmentref02_Same.f k (x12.drop ((wrap64 (x7 + 2)) : Int).toNat) (x10.drop ((wrap64 (x7 + 1)) : Int).toNat)).bind fun t246 => (if t246 = true then (if bt222.2 = true then ((catchmentref03_Same.f k bt222.1 x0).bind fun t247 => (some t247)) else (none)) else (none))) else (none)) else (none)) else (none)) else (none))) else (none)) else (none)) else (none)) else (none)) else (none)) else (none)) else (none)) else (none)) else (none))))) else (none)) else (none))
end
def catchmentlaw13_PivotSplits.f (k : Nat) (l0 : List ByteArray) (a1_0 : ByteArray) (a1_1 : ByteArray) (a2 : ByteArray) : Option (Bool) := if 0 ≤ (mn (l0.length : Int) 30) then (if (mn (l0.length : Int) 30) ≤ (l0.length : Int) then ((catchmentref13_Right.f k (l0.take ((mn (l0.length : Int) 30) : Int).toNat) a1_0 a1_1).bind fun t197 => (if t197 = true then ((pivot_Part.f k (l0.take ((mn (l0.length : Int) 30) : Int).toNat) a2).bind fun t199 => ((pivot_Put.f k (l0.take ((mn (l0.length : Int) 30) : Int).toNat) t199 a2).bind fun bt200 => (if bt200.2 = true then ((catchmentref13_Right.f k bt200.1 a1_0 a1_1).bind fun t204 => (catchmentlaw13_PivotSplits.j0 k (l0.take ((mn (l0.length : Int) 30) : Int).toNat) a2 t199 bt200.1 bt200.2 (!t204) a1_0 a1_1)) else (catchmentlaw13_PivotSplits.j0 k (l0.take ((mn (l0.length : Int) 30) : Int).toNat) a2 t199 bt200.1 bt200.2 true a1_0 a1_1)))) else ((catchmentlaw13_live.f k).bind fun t198 => (some t198)))) else (none)) else (none)
theorem catchmentlaw13_PivotSplits.mono_l : ∀ k, (∀ y0 y1 y2 y3 y4 y5 y6 y7, LeO (catchmentlaw13_PivotSplits.j0 k y0 y1 y2 y3 y4 y5 y6 y7) (catchmentlaw13_PivotSplits.j0 (k + 1) y0 y1 y2 y3 y4 y5 y6 y7)) ∧ (∀ y0 y1 y2 y3 y4 y5 y6, LeO (catchmentlaw13_PivotSplits.j1 k y0 y1 y2 y3 y4 y5 y6) (catchmentlaw13_PivotSplits.j1 (k + 1) y0 y1 y2 y3 y4 y5 y6))
  | 0 => ⟨fun _ _ _ _ _ _ _ _ r h => by simp [catchmentlaw13_PivotSplits.j0] at h, fun _ _ _ _ _ _ _ r h => by simp [catchmentlaw13_PivotSplits.j1] at h⟩
  | k + 1 => by
    obtain ⟨ih0, ih1⟩ := catchmentlaw13_PivotSplits.mono_l k
    refine ⟨?_, ?_⟩
    · intro y0 y1 y2 y3 y4 y5 y6 y7
      unfold catchmentlaw13_PivotSplits.j0
      repeat' first
      | (with_reducible exact ih0 _ _ _ _ _ _ _ _)
      | (with_reducible exact ih1 _ _ _ _ _ _ _)
      | (with_reducible exact catchmentlaw13_live.mono _)
      | (with_reducible exact catchmentlaw13_spans.mono _ _ _ _)
      | (with_reducible exact catchmentref02_Same.mono _ _ _)
      | (with_reducible exact catchmentref03_Same.mono _ _ _)
      | (with_reducible exact catchmentref13_Right.mono _ _ _ _)
      | (with_reducible exact pivot_Part.mono _ _ _)
      | (with_reducible exact pivot_Put.mono _ _ _ _)
      | (with_reducible exact LeO.refl _)
      | (with_reducible exact LeO.none _)
      | (with_reducible refine LeO.ite ?_ ?_)
      | (with_reducible refine LeO.bind ?_ (fun _ => ?_))
      | exact ih0 _ _ _ _ _ _ _ _
      | exact ih1 _ _ _ _ _ _ _
      | exact catchmentlaw13_live.mono _
      | exact catchmentlaw13_spans.mono _ _ _ _
      | exact catchmentref02_Same.mono _ _ _
      | exact catchmentref03_Same.mono _ _ _
      | exact catchmentref13_Right.mono _ _ _ _
      | exact pivot_Part.mono _ _ _
      | exact pivot_Put.mono _ _ _ _
      | exact LeO.none _
      | refine LeO.ite ?_ ?_
      | refine LeO.bind ?_ (fun _ => ?_)
    · intro y0 y1 y2 y3 y4 y5 y6
      unfold catchmentlaw13_PivotSplits.j1
      repeat' first
      | (with_reducible exact ih0 _ _ _ _ _ _ _ _)
      | (with_reducible exact ih1 _ _ _ _ _ _ _)
      | (with_reducible exact catchmentlaw13_live.mono _)
      | (with_reducible exact catchmentlaw13_spans.mono _ _ _ _)
      | (with_reducible exact catchmentref02_Same.mono _ _ _)
      | (with_reducible exact catchmentref03_Same.mono _ _ _)
      | (with_reducible exact catchmentref13_Right.mono _ _ _ _)
      | (with_reducible exact pivot_Part.mono _ _ _)
      | (with_reducible exact pivot_Put.mono _ _ _ _)
      | (with_reducible exact LeO.refl _)
      | (with_reducible exact LeO.none _)
      | (with_reducible refine LeO.ite ?_ ?_)
      | (with_reducible refine LeO.bind ?_ (fun _ => ?_))
      | exact ih0 _ _ _ _ _ _ _ _
      | exact ih1 _ _ _ _ _ _ _
      | exact catchmentlaw13_live.mono _
      | exact catchmentlaw13_spans.mono _ _ _ _
      | exact catchmentref02_Same.mono _ _ _
      | exact catchmentref03_Same.mono _ _ _
      | exact catchmentref13_Right.mono _ _ _ _
      | exact pivot_Part.mono _ _ _
      | exact pivot_Put.mono _ _ _ _
      | exact LeO.none _
      | refine LeO.ite ?_ ?_
      | refine LeO.bind ?_ (fun _ => ?_)
theorem catchmentlaw13_PivotSplits.mono : ∀ a0 a1 a2 a3 k, LeO (catchmentlaw13_PivotSplits.f k a0 a1 a2 a3) (catchmentlaw13_PivotSplits.f (k + 1) a0 a1 a2 a3) := by
  intro a0 a1 a2 a3 k
  obtain ⟨ih0, ih1⟩ := catchmentlaw13_PivotSplits.mono_l k
  unfold catchmentlaw13_PivotSplits.f
  repeat' first
      | (with_reducible exact ih0 _ _ _ _ _ _ _ _)
      | (with_reducible exact ih1 _ _ _ _ _ _ _)
      | (with_reducible exact catchmentlaw13_live.mono _)
      | (with_reducible exact catchmentlaw13_spans.mono _ _ _ _)
      | (with_reducible exact catchmentref02_Same.mono _ _ _)
      | (with_reducible exact catchmentref03_Same.mono _ _ _)
      | (with_reducible exact catchmentref13_Right.mono _ _ _ _)
      | (with_reducible exact pivot_Part.mono _ _ _)
      | (with_reducible exact pivot_Put.mono _ _ _ _)
      | (with_reducible exact LeO.refl _)
      | (with_reducible exact LeO.none _)
      | (with_reducible refine LeO.ite ?_ ?_)
      | (with_reducible refine LeO.bind ?_ (fun _ => ?_))
      | exact ih0 _ _ _ _ _ _ _ _
      | exact ih1 _ _ _ _ _ _ _
      | exact catchmentlaw13_live.mono _
      | exact catchmentlaw13_spans.mono _ _ _ _
      | exact catchmentref02_Same.mono _ _ _
      | exact catchmentref03_Same.mono _ _ _
      | exact catchmentref13_Right.mono _ _ _ _
      | exact pivot_Part.mono _ _ _
      | exact pivot_Put.mono _ _ _ _
      | exact LeO.none _
      | refine LeO.ite ?_ ?_
      | refine LeO.bind ?_ (fun _ => ?_)
def catchmentlaw13_PivotSplits.T14 : Bool × List (List Nat × List Nat) := (true, [([], []), ([0, 0], [0]), ([1], [1]), ([1, 2], [1, 2]), ([3, 1], [3]), ([4], [4]), ([4], [4]), ([5, 6, 4], [4, 5, 6]), ([7, 4], [4, 7]), ([4], [4]), ([8, 9, 4], [4, 8, 9]), ([4, 10], [4, 10]), ([11, 4], [11]), ([12], [12]), ([12], [12]), ([14, 12], [12, 14]), ([13, 15, 12], [12, 13, 15]), ([16, 12], [12, 16]), ([12], [12]), ([17, 18, 12], [12, 17, 18]), ([12, 19], [12, 19]), ([20, 12], [20]), ([21], [21]), ([21], [21]), ([22, 23, 21], [21, 22, 23]), ([21], [21]), ([21], [21]), ([25, 26, 21], [21, 25, 26]), ([24, 27, 21, 21], [21, 24, 27]), ([21, 28], [21, 28]), ([29, 28], [29]), ([30], [30]), ([30], [30]), ([32, 30], [30, 32]), ([31, 33, 30], [30, 31, 33]), ([30], [30]), ([30], [30]), ([36, 30], [30, 36]), ([35, 37, 30], [30, 35, 37]), ([34, 38, 30, 30], [30, 34, 38]), ([30, 39], [30, 39]), ([40, 39], [40]), ([41], [41]), ([41, 42], [41, 42]), ([43, 41], [43]), ([44], [44]), ([44], [44]), ([45, 46, 44, 44], [44, 45, 46]), ([44, 47], [44, 47]), ([48, 47, 0, 1, 2, 3, 4, 5, 6, 7, 8, 9, 10, 11, 12, 13, 14, 15, 16, 17, 18, 19, 20, 21, 22, 23, 24, 25, 26, 27, 28, 29, 30, 31, 32, 33, 34, 35, 36, 37, 38, 39, 40, 41, 42, 43, 44, 45, 46, 47, 48], [48])])
def catchmentlaw13_PivotSplits.B14 : List Nat := [0, 1, 3, 7, 15, 31, 31, 127, 255, 31, 1023, 2047, 4095, 8191, 8191, 24575, 65535, 131071, 8191, 524287, 1048575, 2097151, 4194303, 4194303, 16777215, 4194303, 4194303, 104857599, 268435455, 536870911, 1073741823, 2147483647, 2147483647, 6442450943, 17179869183, 2147483647, 2147483647, 70866960383, 242665652223, 549755813887, 1099511627775, 2199023255551, 4398046511103, 8796093022207, 17592186044415, 35184372088831, 35184372088831, 140737488355327, 281474976710655, 562949953421311]
theorem catchmentlaw13_PivotSplits.tab14 : rtab .any (opsOf Try.f14 14) = catchmentlaw13_PivotSplits.T14 := by kernel_rfl
theorem catchmentlaw13_PivotSplits.bits14 : waitsOk catchmentlaw13_PivotSplits.T14.2 catchmentlaw13_PivotSplits.B14 = true := by kernel_rfl
-- FEWFIX
set_option maxRecDepth 100000 in
set_option maxHeartbeats 4000000 in
theorem catchmentlaw13_PivotSplits_few (A0 : Option Addr) (c0 : Nat) (l0 : List ByteArray) (hl : l0.length ≤ c0) (w : World) : Calls Try.prog 47 #[.slice A0 l0.length c0] w fun e w' => e = .returned (.slice A0 (l0.take (mn (l0.length : Int) 30).toNat).length c0) ∧ w' = w := by
  obtain ⟨j, hj⟩ : ∃ j, mn (l0.length : Int) 30 = j := ⟨_, rfl⟩
  have h1 : 0 ≤ j := by rw [← hj]; unfold mn; split <;> omega
  have h2 : j ≤ (l0.length : Int) := by rw [← hj]; unfold mn; split <;> omega
  rw [hj]
  have hj_ : (if 30 < (l0.length : Int) then 30 else (l0.length : Int)) = j := hj
  have hjn : (if 30 < l0.length then (30 : Int) else (l0.length : Int)) = j := by rw [← hj]; unfold mn; (repeat' split) <;> omega
  obtain ⟨i06, hi06, _, hsz6, _⟩ := info_parts info9
  obtain ⟨hcut6, _, _⟩ := print_take_of (P := Try.prog) Value.string (⟨#[]⟩ : ByteArray) 35 9 .i64 Try.underlying35 hi06 hsz6 A0 c0 l0 j h1 h2 hl
  clear hi06 hsz6 hj
  have hl2 : (l0.take j.toNat).length = j.toNat := by rw [List.length_take]; omega
  go_enter Try.func47, Try.ntmps47
  go_wp2
  all_goals (go_ret; refine ⟨?_, rfl⟩; rw [hl2]; rfl)
set_option maxHeartbeats 8000000 in
set_option maxRecDepth 100000 in
theorem catchmentlaw13_PivotSplits.calls (k : Nat) (A0 : Option Addr) (c0 : Nat) (l0 : List ByteArray) (a1_0 : ByteArray) (a1_1 : ByteArray) (a2 : ByteArray) (r : Bool) (w : World) (hr0 : Kd.C Kd.string w A0 l0.length l0) (hc0 : l0.length ≤ c0) (h : catchmentlaw13_PivotSplits.f k l0 a1_0 a1_1 a2 = some r) :
    Calls Try.prog 14 #[.slice A0 l0.length c0, .agg #[.string a1_0, .string a1_1], .string a2] w fun e w' => e = .returned (.bool r) ∧ Below w.heap.size w w' := by
  have hu80 := Try.underlying80
  have HR0 := Aside0.mk hr0
  have HC0 := Aside0.mk hc0
  clear hr0 hc0
  have HB := Aside0.mk (Below.refl w.heap.size w)
  have H : (if 0 ≤ (mn (l0.length : Int) 30) then (if (mn (l0.length : Int) 30) ≤ (l0.length : Int) then ((catchmentref13_Right.f k (l0.take ((mn (l0.length : Int) 30) : Int).toNat) a1_0 a1_1).bind fun t197 => (if t197 = true then ((pivot_Part.f k (l0.take ((mn (l0.length : Int) 30) : Int).toNat) a2).bind fun t199 => ((pivot_Put.f k (l0.take ((mn (l0.length : Int) 30) : Int).toNat) t199 a2).bind fun bt200 => (if bt200.2 = true then ((catchmentref13_Right.f k bt200.1 a1_0 a1_1).bind fun t204 => (catchmentlaw13_PivotSplits.j0 k (l0.take ((mn (l0.length : Int) 30) : Int).toNat) a2 t199 bt200.1 bt200.2 (!t204) a1_0 a1_1)) else (catchmentlaw13_PivotSplits.j0 k (l0.take ((mn (l0.length : Int) 30) : Int).toNat) a2 t199 bt200.1 bt200.2 true a1_0 a1_1)))) else ((catchmentlaw13_live.f k).bind fun t198 => (some t198)))) else (none)) else (none)) = some r := h
  clear h
  obtain ⟨ji4, hji4⟩ : ∃ j_ : Int, (mn (l0.length : Int) 30) = j_ := ⟨_, rfl⟩
  replace H : (if 0 ≤ (ji4) then (if (ji4) ≤ (l0.length : Int) then ((catchmentref13_Right.f k (l0.take ((ji4) : Int).toNat) a1_0 a1_1).bind fun t197 => (if t197 = true then ((pivot_Part.f k (l0.take ((ji4) : Int).toNat) a2).bind fun t199 => ((pivot_Put.f k (l0.take ((ji4) : Int).toNat) t199 a2).bind fun bt200 => (if bt200.2 = true then ((catchmentref13_Right.f k bt200.1 a1_0 a1_1).bind fun t204 => (catchmentlaw13_PivotSplits.j0 k (l0.take ((ji4) : Int).toNat) a2 t199 bt200.1 bt200.2 (!t204) a1_0 a1_1)) else (catchmentlaw13_PivotSplits.j0 k (l0.take ((ji4) : Int).toNat) a2 t199 bt200.1 bt200.2 true a1_0 a1_1)))) else ((catchmentlaw13_live.f k).bind fun t198 => (some t198)))) else (none)) else (none)) = some r := by first | (rw [hji4] at H; exact H) | (simp only [hji4] at H ⊢; exact H)
  (try (have hji4h : ji4 ≤ 30 := by (rw [← hji4]; unfold mn; (repeat' split) <;> omega)))
  (try (have hji4g : ji4 ≤ 64 := by omega))
  (try (have hji4l : 0 ≤ ji4 := by (rw [← hji4]; unfold mn; (repeat' split) <;> omega)))
  (try (have hji4m : 0 ≤ ji4 := by omega))
  have hji4_ : (if 30 < (l0.length : Int) then 30 else (l0.length : Int)) = ji4 := hji4
  (try (have hji4n : (if 30 < l0.length then (30 : Int) else (l0.length : Int)) = ji4 := by (rw [← hji4]; unfold mn; (repeat' split) <;> omega)))
  by_cases c5 : 0 ≤ (ji4)
  · rw [if_pos c5] at H
    have c5b0 := eq_true c5
    have c5b1 : decide (0 ≤ (ji4)) = true := decide_eq_true c5
    clear c5
    by_cases c6 : (ji4) ≤ (l0.length : Int)
    · rw [if_pos c6] at H
      have c6b0 := eq_true c6
      have c6b1 : decide ((ji4) ≤ (l0.length : Int)) = true := decide_eq_true c6
      clear c6
      obtain ⟨i013, hi013, _, hsz13, _⟩ := info_parts info9
      obtain ⟨hcut13, hA13, hC13⟩ := print_take_of (P := Try.prog) Value.string (⟨#[]⟩ : ByteArray) 35 9 .i64 Try.underlying35 hi013 hsz13 A0 c0 l0 (ji4) (of_decide_eq_true (by first | (with_reducible assumption) | assumption)) (of_decide_eq_true (by first | (with_reducible assumption) | assumption)) HC0.out
      have HR196 := Aside0.mk (Kd.C_of_reads (h1 := fun _ => rfl) (hA13 _ (Kd.reads_of_C HR0.out)))
      have HC196 := Aside0.mk hC13
      clear hcut13 hA13 hC13 hi013 hsz13
      have HFEW : ∀ W : World, Calls Try.prog 47 #[.slice A0 l0.length c0] W (fun e w' => e = .returned (.slice A0 (l0.take ((ji4) : Int).toNat).length c0) ∧ w' = W) := fun W => by have h_ := catchmentlaw13_PivotSplits_few A0 c0 l0 HC0.out W; rw [hji4] at h_; exact h_
      obtain ⟨t196_, ht196_⟩ : ∃ x, (l0.take ((ji4) : Int).toNat) = x := ⟨_, rfl⟩
      have et196_ : ji4 = (t196_.length : Int) := by rw [← ht196_, List.length_take]; have := of_decide_eq_true (show decide (0 ≤ (ji4)) = true by assumption); have := of_decide_eq_true (show decide ((ji4) ≤ (l0.length : Int)) = true by assumption); omega
      simp only [ht196_] at *
      clear ht196_
      subst et196_
      replace HFEW := Aside0.mk HFEW
      replace H := Option.bind_eq_some_iff.mp H
      obtain ⟨t197, A70, H⟩ := H
      replace H : (if t197 = true then ((pivot_Part.f k t196_ a2).bind fun t199 => ((pivot_Put.f k t196_ t199 a2).bind fun bt200 => (if bt200.2 = true then ((catchmentref13_Right.f k bt200.1 a1_0 a1_1).bind fun t204 => (catchmentlaw13_PivotSplits.j0 k t196_ a2 t199 bt200.1 bt200.2 (!t204) a1_0 a1_1)) else (catchmentlaw13_PivotSplits.j0 k t196_ a2 t199 bt200.1 bt200.2 true a1_0 a1_1)))) else ((catchmentlaw13_live.f k).bind fun t198 => (some t198))) = some r := H
      have A7 := Aside0.mk A70
      clear A70
      by_cases c8 : t197 = true
      · subst c8
        have H1 : ((pivot_Part.f k t196_ a2).bind fun t199 => ((pivot_Put.f k t196_ t199 a2).bind fun bt200 => (if bt200.2 = true then ((catchmentref13_Right.f k bt200.1 a1_0 a1_1).bind fun t204 => (catchmentlaw13_PivotSplits.j0 k t196_ a2 t199 bt200.1 bt200.2 (!t204) a1_0 a1_1)) else (catchmentlaw13_PivotSplits.j0 k t196_ a2 t199 bt200.1 bt200.2 true a1_0 a1_1)))) = some r := by rw [if_pos rfl] at H; exact H
        clear H
        have H := H1
        clear H1
        replace H := Option.bind_eq_some_iff.mp H
        obtain ⟨t199, A90, H⟩ := H
        replace H : ((pivot_Put.f k t196_ t199 a2).bind fun bt200 => (if bt200.2 = true then ((catchmentref13_Right.f k bt200.1 a1_0 a1_1).bind fun t204 => (catchmentlaw13_PivotSplits.j0 k t196_ a2 t199 bt200.1 bt200.2 (!t204) a1_0 a1_1)) else (catchmentlaw13_PivotSplits.j0 k t196_ a2 t199 bt200.1 bt200.2 true a1_0 a1_1))) = some r := H
        have A9 := Aside0.mk A90
        clear A90
        replace H := Option.bind_eq_some_iff.mp H
        obtain ⟨⟨t200, t201⟩, A100, H⟩ := H
        replace H : (if t201 = true then ((catchmentref13_Right.f k t200 a1_0 a1_1).bind fun t204 => (catchmentlaw13_PivotSplits.j0 k t196_ a2 t199 t200 t201 (!t204) a1_0 a1_1)) else (catchmentlaw13_PivotSplits.j0 k t196_ a2 t199 t200 t201 true a1_0 a1_1)) = some r := H
        have A10 := Aside0.mk A100
        clear A100
        have HC11 := Aside0.mk H
        clear H
        go_enter Try.func14, Try.ntmps14
        go_upto_region 6 with (first | (go_at_call 47; refine (HFEW.out _).mono ?_; rintro e w_ ⟨rfl, rfl⟩) | ((with_reducible refine gate_dst (N := 4) rfl ?_); (try (refine gate_guard (by rfl) ?_; dsimp only)); refine box_event ?hg (N := 4) ?hd (cs := #[.string a1_0, .string a1_1]) (t := 80) ?hr ?_; (case hd => rfl); (case hg => rfl); (case hr => first | (go_simp; done) | (go_simp; rfl)); intro gb195 hg w12 hbox hb; have n0_ := Aside0.mk (below_step (by repeat (first | (with_reducible first | exact HB.out | apply below_alloc | apply pw_below_drewN | apply below_drew1) | exact HB.out)) hb); have n1_ := Aside0.mk (hbox); have n2_ := Aside0.mk ((by rw [hg]; exact (below_size (by repeat (first | (with_reducible first | exact HB.out | apply below_alloc | apply pw_below_drewN | apply below_drew1) | exact HB.out))) : w.heap.size ≤ gb195)); have n3_ := Aside0.mk ((by rw [hg]; exact (below_size (by repeat (first | (with_reducible first | exact HB.out | apply below_alloc | apply pw_below_drewN | apply below_drew1) | exact HB.out))) : w.heap.size ≤ gb195)); clear HB; have HB := n0_; have BK195 := n1_; have GW195 := n2_; have GE195 := n3_; clear n0_ n1_ n2_ n3_; clear hb hbox hg; skip; have hcz14_0 : w12.cell? ⟨gb195, 0, none⟩ = some (.string a1_0) := (blk_cell BK195.out 0).trans rfl; have hcz14_1 : w12.cell? ⟨gb195, 1, none⟩ = some (.string a1_1) := (blk_cell BK195.out 1).trans rfl; have hfz14_0 := blk_frozen BK195.out 0; have hfz14_1 := blk_frozen BK195.out 1) | ((with_reducible refine gate_callee (f := 56) rfl ?_); refine goesL_ (some 23) rfl rfl Try.func56 (by kernel_rfl) rfl #[.slice A0 t196_.length c0, .agg #[.string a1_0, .string a1_1]] rfl (by (try simp only [List.map_toArray, List.map_cons, List.map_nil]); first | done | (rw [show t196_.length = ((t196_.length : Int)).toNat from (by rw [List.length_take]; have h_ : (((t196_.length : Int)) : Int) ≤ (l0.length : Int) := of_decide_eq_true (by first | (with_reducible assumption) | assumption); omega)] <;> rfl) | (simp only [hji4]; rfl) | rfl | (simp only [List.length_drop, List.length_take]; rfl)) ?_; (with_reducible refine (catchmentref13_Right.calls k _ _ t196_ a1_0 a1_1 true _ ?side1 ?side2 A7.out).mono ?_); (case side1 => repeat (first | exact (Kd.C_below HR196.out HB.out) | (with_reducible refine Kd.C_alloc ?_ _) | (with_reducible refine Kd.C_drewN ?_ _) | (with_reducible refine Kd.C_drew ?_))); (case side2 => exact HC196.out); rintro e w15 ⟨rfl, hb⟩; refine ⟨_, rfl, ?_⟩; have n0_ := Aside0.mk (blk_below (g := gb195) (o := .cells #[.string a1_0, .string a1_1] 80 (0, 0)) (by (with_reducible repeat (first | refine blk_drewN ?_ _ | refine blk_drew ?_ | refine blk_alloc ?_ _)); exact BK195.out) hb); have n1_ := Aside0.mk (below_step (by repeat (first | (with_reducible first | exact HB.out | apply below_alloc | apply pw_below_drewN | apply below_drew1 | refine below_set ?_ GE195.out) | exact HB.out)) hb); clear BK195; clear HB; have BK195 := n0_; have HB := n1_; clear n0_ n1_; (try clear hb); (try clear hb2); (try clear hk); (try clear hi)) | ((with_reducible refine gate_callee (f := 58) rfl ?_); refine goesL_ (some 28) rfl rfl Try.func58 (by kernel_rfl) rfl #[.slice A0 t196_.length c0, .string a2] rfl (by (try simp only [List.map_toArray, List.map_cons, List.map_nil]); first | done | (rw [show t196_.length = ((t196_.length : Int)).toNat from (by rw [List.length_take]; have h_ : (((t196_.length : Int)) : Int) ≤ (l0.length : Int) := of_decide_eq_true (by first | (with_reducible assumption) | assumption); omega)] <;> rfl) | (simp only [hji4]; rfl) | rfl | (simp only [List.length_drop, List.length_take]; rfl)) ?_; (with_reducible refine (pivot_Part.calls k _ _ t196_ a2 t199 _ ?side1 ?side2 A9.out).mono ?_); (case side1 => repeat (first | exact (Kd.C_below HR196.out HB.out) | (with_reducible refine Kd.C_alloc ?_ _) | (with_reducible refine Kd.C_drewN ?_ _) | (with_reducible refine Kd.C_drew ?_))); (case side2 => exact HC196.out); rintro e w' ⟨rfl, ⟨nd, rfl⟩⟩; refine ⟨_, rfl, ?_⟩) | ((with_reducible refine gate_callee (f := 61) rfl ?_); refine goesL_ (some 33) rfl rfl Try.func61 (by kernel_rfl) rfl #[.slice A0 t196_.length c0, .int .i64 t199, .string a2] rfl (by (try simp only [List.map_toArray, List.map_cons, List.map_nil]); first | done | (rw [show t196_.length = ((t196_.length : Int)).toNat from (by rw [List.length_take]; have h_ : (((t196_.length : Int)) : Int) ≤ (l0.length : Int) := of_decide_eq_true (by first | (with_reducible assumption) | assumption); omega)] <;> rfl) | (simp only [hji4]; rfl) | rfl | (simp only [List.length_drop, List.length_take]; rfl)) ?_; (with_reducible refine (pivot_Put.calls k _ _ t196_ t199 a2 t200 t201 _ ?side1 ?side2 A10.out).mono ?_); (case side1 => repeat (first | exact (Kd.C_below HR196.out (by repeat (first | (with_reducible first | exact HB.out | apply below_alloc | apply pw_below_drewN | apply below_drew1 | refine below_set ?_ GE195.out) | exact HB.out))) | (with_reducible refine Kd.C_alloc ?_ _) | (with_reducible refine Kd.C_drewN ?_ _) | (with_reducible refine Kd.C_drew ?_))); (case side2 => exact HC196.out); rintro e w16 ⟨v202, rfl, ho0, hb⟩; refine ⟨_, rfl, ?_⟩; have n0_ := Aside0.mk (Kd.R_lower ho0 (below_size (by repeat (first | (with_reducible first | exact HB.out | apply below_alloc | apply pw_below_drewN | apply below_drew1 | refine below_set ?_ GE195.out) | exact HB.out)))); have n1_ := Aside0.mk (blk_below (g := gb195) (o := .cells #[.string a1_0, .string a1_1] 80 (0, 0)) (by (with_reducible repeat (first | refine blk_drewN ?_ _ | refine blk_drew ?_ | refine blk_alloc ?_ _)); exact BK195.out) hb); have n2_ := Aside0.mk (below_step (by repeat (first | (with_reducible first | exact HB.out | apply below_alloc | apply pw_below_drewN | apply below_drew1 | refine below_set ?_ GE195.out) | exact HB.out)) hb); clear BK195; clear HB; have HO203 := n0_; have BK195 := n1_; have HB := n2_; clear n0_ n1_ n2_; (try clear hb); (try clear hb2); (try clear hk); (try clear hi); (try clear ho0)))
        (try simp only [Act.put, List.setIfInBounds_toArray, List.set_cons_zero, List.set_cons_succ])
        go_cut [43] (fun v43 wc => ∃ (kq : Nat) (x43_10 : Bool), v43 = .bool x43_10 ∧ Aside0 (catchmentlaw13_PivotSplits.j0 kq t196_ a2 t199 t200 t201 x43_10 a1_0 a1_1 = some r) ∧ Aside0 (kq ≤ k) ∧ Aside0 (Kd.R Kd.string 9 wc w.heap.size (fun _ => True) v202 t200) ∧ Aside0 (wc.heap[gb195]? = some (.cells #[.string a1_0, .string a1_1] 80 (0, 0))) ∧ Aside0 (Below w.heap.size w wc))
        case first =>
          have H := HC11.out
          clear HC11
          by_cases c17 : t201 = true
          · subst c17
            have H1 : ((catchmentref13_Right.f k t200 a1_0 a1_1).bind fun t204 => (catchmentlaw13_PivotSplits.j0 k t196_ a2 t199 t200 true (!t204) a1_0 a1_1)) = some r := by rw [if_pos rfl] at H; exact H
            clear H
            have H := H1
            clear H1
            replace H := Option.bind_eq_some_iff.mp H
            obtain ⟨t204, A180, H⟩ := H
            replace H : (catchmentlaw13_PivotSplits.j0 k t196_ a2 t199 t200 true (!t204) a1_0 a1_1) = some r := H
            have A18 := Aside0.mk A180
            clear A180
            have H' := Aside0.mk H
            clear H
            have hcz19_0 : w16.cell? ⟨gb195, 0, none⟩ = some (.string a1_0) := (blk_cell BK195.out 0).trans rfl
            have hcz19_1 : w16.cell? ⟨gb195, 1, none⟩ = some (.string a1_1) := (blk_cell BK195.out 1).trans rfl
            have hfz19_0 := blk_frozen BK195.out 0
            have hfz19_1 := blk_frozen BK195.out 1
            obtain ⟨Ao20, co20, eo20⟩ := Kd.R_slice HO203.out
            subst eo20
            go_wp2_with (first | (go_at_call 56; (with_reducible refine (catchmentref13_Right.calls k _ _ t200 a1_0 a1_1 t204 _ ?side1 ?side2 A18.out).mono ?_); (case side1 => repeat (first | exact (Kd.R_reads' HO203.out).2.2 | (with_reducible refine Kd.C_alloc ?_ _) | (with_reducible refine Kd.C_drewN ?_ _) | (with_reducible refine Kd.C_drew ?_))); (case side2 => exact (Kd.R_reads' HO203.out).2.1); rintro e w21 ⟨rfl, hb⟩; have n0_ := Aside0.mk (Kd.R_below (by (with_reducible repeat (first | apply Kd.R_alloc | apply Kd.R_drewN | apply Kd.R_drew)); exact HO203.out) hb); have n1_ := Aside0.mk (blk_below (g := gb195) (o := .cells #[.string a1_0, .string a1_1] 80 (0, 0)) (by (with_reducible repeat (first | refine blk_drewN ?_ _ | refine blk_drew ?_ | refine blk_alloc ?_ _)); exact BK195.out) hb); have n2_ := Aside0.mk (below_step (by repeat (first | (with_reducible first | exact HB.out | apply below_alloc | apply pw_below_drewN | apply below_drew1 | refine below_set ?_ GE195.out) | exact HB.out)) hb); clear HO203; clear BK195; clear HB; have HO203 := n0_; have BK195 := n1_; have HB := n2_; clear n0_ n1_ n2_; (try clear hb); (try clear hb2); (try clear hk); (try clear hi)))
            go_meet
            case rel => exact ⟨_, (!t204), (by first | rfl | (simp; done) | (simp [*]; done)), H', ⟨by first | omega | exact Nat.le_refl _⟩, ⟨by (with_reducible repeat (first | apply Kd.R_alloc | apply Kd.R_drewN | apply Kd.R_drew)); exact HO203.out⟩, ⟨by (with_reducible repeat (first | refine blk_drewN ?_ _ | refine blk_drew ?_ | refine blk_alloc ?_ _)); exact BK195.out⟩, ⟨by repeat (first | (with_reducible first | exact HB.out | apply below_alloc | apply pw_below_drewN | apply below_drew1 | refine below_set ?_ GE195.out) | exact HB.out)⟩⟩
          · replace c17 := Bool.eq_false_iff.mpr c17
            subst c17
            have H1 : (catchmentlaw13_PivotSplits.j0 k t196_ a2 t199 t200 false true a1_0 a1_1) = some r := by rw [if_neg (show ¬ (false = true) by decide)] at H; exact H
            clear H
            have H := H1
            clear H1
            have H' := Aside0.mk H
            clear H
            go_wp2
            go_meet
            case rel => exact ⟨_, (true), (by first | rfl | (simp; done) | (simp [*]; done)), H', ⟨by first | omega | exact Nat.le_refl _⟩, ⟨by (with_reducible repeat (first | apply Kd.R_alloc | apply Kd.R_drewN | apply Kd.R_drew)); exact HO203.out⟩, ⟨by (with_reducible repeat (first | refine blk_drewN ?_ _ | refine blk_drew ?_ | refine blk_alloc ?_ _)); exact BK195.out⟩, ⟨by repeat (first | (with_reducible first | exact HB.out | apply below_alloc | apply pw_below_drewN | apply below_drew1 | refine below_set ?_ GE195.out) | exact HB.out)⟩⟩
        case rest =>
          clear HC11
          try clear c1
          try clear p2
          try clear c5
          try clear c5b0
          try clear c5b1
          try clear c6
          try clear c6b0
          try clear c6b1
          try clear c8
          try clear c14
          try clear c17
          try clear hcz14_0
          try clear hcz14_1
          try clear hcz19_0
          try clear hcz19_1
          try clear hfz14_0
          try clear hfz14_1
          try clear hfz19_0
          try clear hfz19_1
          obtain ⟨kq, x43_10, rfl, HA, HJ10, HO_8, BK195, HB⟩ := hcut
          cases kq with
          | zero => exact absurd HA.out (by simp [catchmentlaw13_PivotSplits.j0])
          | succ kj10 =>
            have H := HA.out
            clear HA
            simp only [catchmentlaw13_PivotSplits.j0] at H
            by_cases c22 : x43_10 = true
            · subst c22
              have H1 : ((catchmentlaw13_live.f kj10).bind fun t205 => (if t205 = true then (some (((t200.length : Int) == 0) == (!t201))) else (none))) = some r := by rw [if_pos rfl] at H; exact H
              clear H
              have H := H1
              clear H1
              replace H := Option.bind_eq_some_iff.mp H
              obtain ⟨t205, A230, H⟩ := H
              replace H : (if t205 = true then (some (((t200.length : Int) == 0) == (!t201))) else (none)) = some r := H
              have A23 := Aside0.mk A230
              clear A230
              by_cases c24 : t205 = true
              · subst c24
                have H1 : (some (((t200.length : Int) == 0) == (!t201))) = some r := by rw [if_pos rfl] at H; exact H
                clear H
                have H := H1
                clear H1
                obtain rfl := Option.some.inj H
                go_wp2_with (first | ((with_reducible refine gate_callee (f := 53) rfl ?_); refine goesL_ (some 44) rfl rfl Try.func53 (by kernel_rfl) rfl #[] rfl (by (try simp only [List.map_toArray, List.map_cons, List.map_nil]); first | done | rfl | (simp only [List.length_drop, List.length_take]; rfl)) ?_; (with_reducible refine (catchmentlaw13_live.calls kj10  true _ A23.out).mono ?_); rintro e w25 ⟨rfl, hb⟩; refine ⟨_, rfl, ?_⟩; have n0_ := Aside0.mk (Kd.R_below (by (with_reducible repeat (first | apply Kd.R_alloc | apply Kd.R_drewN | apply Kd.R_drew)); exact HO_8.out) hb); have n1_ := Aside0.mk (blk_below (g := gb195) (o := .cells #[.string a1_0, .string a1_1] 80 (0, 0)) (by (with_reducible repeat (first | refine blk_drewN ?_ _ | refine blk_drew ?_ | refine blk_alloc ?_ _)); exact BK195.out) hb); have n2_ := Aside0.mk (below_step (by repeat (first | (with_reducible first | exact HB.out | apply below_alloc | apply pw_below_drewN | apply below_drew1 | refine below_set ?_ GE195.out) | exact HB.out)) hb); clear HO_8; clear BK195; clear HB; have HO_8 := n0_; have BK195 := n1_; have HB := n2_; clear n0_ n1_ n2_; (try clear hb); (try clear hb2); (try clear hk); (try clear hi); obtain ⟨Ao26, co26, eo26⟩ := Kd.R_slice HO_8.out; subst eo26))
                go_ret
                exact ⟨by first | rfl | (simp [errW_none, errW_some] <;> rfl) | (simp only [← hji4]; first | rfl | (simp [errW_none, errW_some] <;> rfl)) | (simp [*, errW_none, errW_some] <;> rfl), by repeat (first | (with_reducible first | exact HB.out | apply below_alloc | apply pw_below_drewN | apply below_drew1 | refine below_set ?_ GE195.out) | exact HB.out)⟩
              · replace c24 := Bool.eq_false_iff.mpr c24
                subst c24
                have H1 : (none) = some r := by rw [if_neg (show ¬ (false = true) by decide)] at H; exact H
                clear H
                have H := H1
                clear H1
                exact absurd H (by simp)
            · replace c22 := Bool.eq_false_iff.mpr c22
              subst c22
              have H1 : ((catchmentlaw13_spans.f kj10 t196_ a1_0 a1_1).bind fun bt206 => ((catchmentlaw13_spans.f kj10 t200 a1_0 a1_1).bind fun bt210 => (if (bt210.1.length : Int) = (wrap64 ((bt206.1.length : Int) + 1)) then (catchmentlaw13_PivotSplits.j1 kj10 t196_ a2 t199 t200 bt206.1 bt210.1 (decide (t199 ≥ (bt206.1.length : Int)))) else (catchmentlaw13_PivotSplits.j1 kj10 t196_ a2 t199 t200 bt206.1 bt210.1 true)))) = some r := by rw [if_neg (show ¬ (false = true) by decide)] at H; exact H
              clear H
              have H := H1
              clear H1
              replace H := Option.bind_eq_some_iff.mp H
              obtain ⟨⟨t206, t209⟩, A270, H⟩ := H
              replace H : ((catchmentlaw13_spans.f kj10 t200 a1_0 a1_1).bind fun bt210 => (if (bt210.1.length : Int) = (wrap64 ((t206.length : Int) + 1)) then (catchmentlaw13_PivotSplits.j1 kj10 t196_ a2 t199 t200 t206 bt210.1 (decide (t199 ≥ (t206.length : Int)))) else (catchmentlaw13_PivotSplits.j1 kj10 t196_ a2 t199 t200 t206 bt210.1 true))) = some r := H
              have A27 := Aside0.mk A270
              clear A270
              replace H := Option.bind_eq_some_iff.mp H
              obtain ⟨⟨t210, t213⟩, A280, H⟩ := H
              replace H : (if (t210.length : Int) = (wrap64 ((t206.length : Int) + 1)) then (catchmentlaw13_PivotSplits.j1 kj10 t196_ a2 t199 t200 t206 t210 (decide (t199 ≥ (t206.length : Int)))) else (catchmentlaw13_PivotSplits.j1 kj10 t196_ a2 t199 t200 t206 t210 true)) = some r := H
              have A28 := Aside0.mk A280
              clear A280
              have HC29 := Aside0.mk H
              clear H
              have hcz30_0 : wc.cell? ⟨gb195, 0, none⟩ = some (.string a1_0) := (blk_cell BK195.out 0).trans rfl
              have hcz30_1 : wc.cell? ⟨gb195, 1, none⟩ = some (.string a1_1) := (blk_cell BK195.out 1).trans rfl
              have hfz30_0 := blk_frozen BK195.out 0
              have hfz30_1 := blk_frozen BK195.out 1
              go_upto_region 10 with (first | ((with_reducible refine gate_callee (f := 49) rfl ?_); refine goesL_ (some 56) rfl rfl Try.func49 (by kernel_rfl) rfl #[.slice A0 t196_.length c0, .agg #[.string a1_0, .string a1_1]] rfl (by (try simp only [List.map_toArray, List.map_cons, List.map_nil]); first | done | (rw [show t196_.length = ((t196_.length : Int)).toNat from (by rw [List.length_take]; have h_ : (((t196_.length : Int)) : Int) ≤ (l0.length : Int) := of_decide_eq_true (by first | (with_reducible assumption) | assumption); omega)] <;> rfl) | (simp only [hji4]; rfl) | rfl | (simp only [List.length_drop, List.length_take]; rfl)) ?_; (with_reducible refine (catchmentlaw13_spans.calls kj10 _ _ t196_ a1_0 a1_1 t206 t209 _ ?side1 ?side2 A27.out).mono ?_); (case side1 => repeat (first | exact (Kd.C_below HR196.out HB.out) | (with_reducible refine Kd.C_alloc ?_ _) | (with_reducible refine Kd.C_drewN ?_ _) | (with_reducible refine Kd.C_drew ?_))); (case side2 => exact HC196.out); rintro e w31 ⟨v207, rfl, ho0, hb⟩; refine ⟨_, rfl, ?_⟩; have n0_ := Aside0.mk (Kd.R_below (by (with_reducible repeat (first | apply Kd.R_alloc | apply Kd.R_drewN | apply Kd.R_drew)); exact HO_8.out) hb); have n1_ := Aside0.mk (Kd.R_lower (Kd.R_newB ho0 (g := gb195) (o := .cells #[.string a1_0, .string a1_1] 80 (0, 0)) (by (with_reducible repeat (first | refine blk_drewN ?_ _ | refine blk_drew ?_ | refine blk_alloc ?_ _)); exact BK195.out)) (below_size (by repeat (first | (with_reducible first | exact HB.out | apply below_alloc | apply pw_below_drewN | apply below_drew1 | refine below_set ?_ GE195.out) | exact HB.out)))); have n2_ := Aside0.mk (blk_below (g := gb195) (o := .cells #[.string a1_0, .string a1_1] 80 (0, 0)) (by (with_reducible repeat (first | refine blk_drewN ?_ _ | refine blk_drew ?_ | refine blk_alloc ?_ _)); exact BK195.out) hb); have n3_ := Aside0.mk (below_step (by repeat (first | (with_reducible first | exact HB.out | apply below_alloc | apply pw_below_drewN | apply below_drew1 | refine below_set ?_ GE195.out) | exact HB.out)) hb); clear HO_8; clear BK195; clear HB; have HO_8 := n0_; have HO208 := n1_; have BK195 := n2_; have HB := n3_; clear n0_ n1_ n2_ n3_; (try clear hb); (try clear hb2); (try clear hk); (try clear hi); (try clear ho0); have hcz32_0 : w31.cell? ⟨gb195, 0, none⟩ = some (.string a1_0) := (blk_cell BK195.out 0).trans rfl; have hcz32_1 : w31.cell? ⟨gb195, 1, none⟩ = some (.string a1_1) := (blk_cell BK195.out 1).trans rfl; have hfz32_0 := blk_frozen BK195.out 0; have hfz32_1 := blk_frozen BK195.out 1; obtain ⟨Ao33, co33, eo33⟩ := Kd.R_slice HO_8.out; subst eo33) | ((with_reducible refine gate_callee (f := 49) rfl ?_); refine goesL_ (some 62) rfl rfl Try.func49 (by kernel_rfl) rfl #[.slice Ao33 t200.length co33, .agg #[.string a1_0, .string a1_1]] rfl (by (try simp only [List.map_toArray, List.map_cons, List.map_nil]); first | done | rfl | (simp only [List.length_drop, List.length_take]; rfl)) ?_; (with_reducible refine (catchmentlaw13_spans.calls kj10 _ _ t200 a1_0 a1_1 t210 t213 _ ?side1 ?side2 A28.out).mono ?_); (case side1 => repeat (first | exact (Kd.R_reads' HO_8.out).2.2 | (with_reducible refine Kd.C_alloc ?_ _) | (with_reducible refine Kd.C_drewN ?_ _) | (with_reducible refine Kd.C_drew ?_))); (case side2 => exact (Kd.R_reads' HO_8.out).2.1); rintro e w34 ⟨v211, rfl, ho0, hb⟩; refine ⟨_, rfl, ?_⟩; have n0_ := Aside0.mk (Kd.R_below (by (with_reducible repeat (first | apply Kd.R_alloc | apply Kd.R_drewN | apply Kd.R_drew)); exact HO_8.out) hb); have n1_ := Aside0.mk (Kd.R_elder' (by (with_reducible repeat (first | apply Kd.R_alloc | apply Kd.R_drewN | apply Kd.R_drew)); exact HO208.out) (Kd.R_base ho0) hb); have n2_ := Aside0.mk (Kd.R_lower (Kd.R_newB (Kd.R_new' ho0 (Kd.R_lt (by (with_reducible repeat (first | apply Kd.R_alloc | apply Kd.R_drewN | apply Kd.R_drew)); exact HO208.out))) (g := gb195) (o := .cells #[.string a1_0, .string a1_1] 80 (0, 0)) (by (with_reducible repeat (first | refine blk_drewN ?_ _ | refine blk_drew ?_ | refine blk_alloc ?_ _)); exact BK195.out)) (below_size (by repeat (first | (with_reducible first | exact HB.out | apply below_alloc | apply pw_below_drewN | apply below_drew1 | refine below_set ?_ GE195.out) | exact HB.out)))); have n3_ := Aside0.mk (blk_below (g := gb195) (o := .cells #[.string a1_0, .string a1_1] 80 (0, 0)) (by (with_reducible repeat (first | refine blk_drewN ?_ _ | refine blk_drew ?_ | refine blk_alloc ?_ _)); exact BK195.out) hb); have n4_ := Aside0.mk (below_step (by repeat (first | (with_reducible first | exact HB.out | apply below_alloc | apply pw_below_drewN | apply below_drew1 | refine below_set ?_ GE195.out) | exact HB.out)) hb); clear HO_8; clear HO208; clear BK195; clear HB; have HO_8 := n0_; have HO208 := n1_; have HO212 := n2_; have BK195 := n3_; have HB := n4_; clear n0_ n1_ n2_ n3_ n4_; (try clear hb); (try clear hb2); (try clear hk); (try clear hi); (try clear ho0)))
              (try simp only [Act.put, List.setIfInBounds_toArray, List.set_cons_zero, List.set_cons_succ])
              go_cut [76] (fun v76 wc => ∃ (kq : Nat) (x76_28 : Bool), v76 = .bool x76_28 ∧ Aside0 (catchmentlaw13_PivotSplits.j1 kq t196_ a2 t199 t200 t206 t210 x76_28 = some r) ∧ Aside0 (kq ≤ kj10) ∧ Aside0 (Kd.R Kd.string 9 wc w.heap.size (fun _ => True) (.slice Ao33 t200.length co33) t200) ∧ Aside0 (Kd.R k80 80 wc w.heap.size (fun k_ => some k_ ≠ (v211 : Value).ownBlock ∧ k_ ≠ gb195) v207 t206) ∧ Aside0 (Kd.R k80 80 wc w.heap.size (fun k_ => some k_ ≠ (v207 : Value).ownBlock ∧ k_ ≠ gb195) v211 t210) ∧ Aside0 (wc.heap[gb195]? = some (.cells #[.string a1_0, .string a1_1] 80 (0, 0))) ∧ Aside0 (Below w.heap.size w wc))
              case first =>
                have H := HC29.out
                clear HC29
                by_cases c35 : (t210.length : Int) = (wrap64 ((t206.length : Int) + 1))
                · rw [if_pos c35] at H
                  have c35b0 : ((t210.length : Int) == (wrap64 ((t206.length : Int) + 1))) = true := beq_iff_eq.mpr c35
                  have c35b1 : ((t210.length : Int) != (wrap64 ((t206.length : Int) + 1))) = false := bne_eq_false_iff_eq.mpr c35
                  clear c35
                  (first | rw [c35b0] | (simp only [i64_w, i32_w]; rw [c35b0]) | skip)
                  have H' := Aside0.mk H
                  clear H
                  obtain ⟨Ao36, co36, eo36⟩ := Kd.R_slice HO212.out
                  subst eo36
                  obtain ⟨Ao37, co37, eo37⟩ := Kd.R_slice HO208.out
                  subst eo37
                  go_wp2
                  go_meet
                  case rel => exact ⟨_, (decide (t199 ≥ (t206.length : Int))), (by first | rfl | (simp; done) | (simp [*]; done)), H', ⟨by have := HJ10.out; first | omega | exact Nat.le_refl _⟩, ⟨by (with_reducible repeat (first | apply Kd.R_alloc | apply Kd.R_drewN | apply Kd.R_drew)); exact HO_8.out⟩, ⟨by (with_reducible repeat (first | apply Kd.R_alloc | apply Kd.R_drewN | apply Kd.R_drew)); exact Kd.R_mono HO208.out (fun _ hk => ⟨hk.2, hk.1.2⟩)⟩, ⟨by (with_reducible repeat (first | apply Kd.R_alloc | apply Kd.R_drewN | apply Kd.R_drew)); exact Kd.R_mono HO212.out (fun _ hk => ⟨hk.1.2, hk.2⟩)⟩, ⟨by (with_reducible repeat (first | refine blk_drewN ?_ _ | refine blk_drew ?_ | refine blk_alloc ?_ _)); exact BK195.out⟩, ⟨by repeat (first | (with_reducible first | exact HB.out | apply below_alloc | apply pw_below_drewN | apply below_drew1 | refine below_set ?_ GE195.out) | exact HB.out)⟩⟩
                · rw [if_neg c35] at H
                  have c35b0 : ((t210.length : Int) == (wrap64 ((t206.length : Int) + 1))) = false := beq_eq_false_iff_ne.mpr c35
                  have c35b1 : ((t210.length : Int) != (wrap64 ((t206.length : Int) + 1))) = true := bne_iff_ne.mpr c35
                  (first | rw [c35b0] | (simp only [i64_w, i32_w]; rw [c35b0]) | skip)
                  have H' := Aside0.mk H
                  clear H
                  obtain ⟨Ao38, co38, eo38⟩ := Kd.R_slice HO212.out
                  subst eo38
                  obtain ⟨Ao39, co39, eo39⟩ := Kd.R_slice HO208.out
                  subst eo39
                  go_wp2
                  go_meet
                  case rel => exact ⟨_, (true), (by first | rfl | (simp; done) | (simp [*]; done)), H', ⟨by have := HJ10.out; first | omega | exact Nat.le_refl _⟩, ⟨by (with_reducible repeat (first | apply Kd.R_alloc | apply Kd.R_drewN | apply Kd.R_drew)); exact HO_8.out⟩, ⟨by (with_reducible repeat (first | apply Kd.R_alloc | apply Kd.R_drewN | apply Kd.R_drew)); exact Kd.R_mono HO208.out (fun _ hk => ⟨hk.2, hk.1.2⟩)⟩, ⟨by (with_reducible repeat (first | apply Kd.R_alloc | apply Kd.R_drewN | apply Kd.R_drew)); exact Kd.R_mono HO212.out (fun _ hk => ⟨hk.1.2, hk.2⟩)⟩, ⟨by (with_reducible repeat (first | refine blk_drewN ?_ _ | refine blk_drew ?_ | refine blk_alloc ?_ _)); exact BK195.out⟩, ⟨by repeat (first | (with_reducible first | exact HB.out | apply below_alloc | apply pw_below_drewN | apply below_drew1 | refine below_set ?_ GE195.out) | exact HB.out)⟩⟩
              case rest =>
                clear HC29
                try clear c1
                try clear c2
                try clear p2
                try clear c3
                try clear c4
                try clear c5
                try clear c5b0
                try clear c5b1
                try clear c6
                try clear c6b0
                try clear c6b1
                try clear p6
                try clear c8
                try clear c14
                try clear c17
                try clear c22
                try clear c24
                try clear c35
                try clear c35b0
                try clear c35b1
                try clear hcz14_0
                try clear hcz14_1
                try clear hcz19_0
                try clear hcz19_1
                try clear hcz30_0
                try clear hcz30_1
                try clear hcz32_0
                try clear hcz32_1
                try clear hfz14_0
                try clear hfz14_1
                try clear hfz19_0
                try clear hfz19_1
                try clear hfz30_0
                try clear hfz30_1
                try clear hfz32_0
                try clear hfz32_1
                try clear p2
                obtain ⟨kq, x76_28, rfl, HA, HJ28, HO_8, HO_10, HO_12, BK195, HB⟩ := hcut
                cases kq with
                | zero => exact absurd HA.out (by simp [catchmentlaw13_PivotSplits.j1])
                | succ kj28 =>
                  have H := HA.out
                  clear HA
                  simp only [catchmentlaw13_PivotSplits.j1] at H
                  by_cases c40 : x76_28 = true
                  · subst c40
                    have H1 : (none) = some r := by rw [if_pos rfl] at H; exact H
                    clear H
                    have H := H1
                    clear H1
                    exact absurd H (by simp)
                  · replace c40 := Bool.eq_false_iff.mpr c40
                    subst c40
                    have H1 : (if 0 ≤ t199 then (if t199 < (t206.length : Int) then ((catchmentref02_Split.f ((rd_T80 t206 t199).f0) ((rd_T80 t206 t199).f1) a2).bind fun bt215 => ((pivot_Drop.f t200 t199).bind fun bt222 => ((catchmentlaw13_live.f kj28).bind fun t226 => (if t226 = true then (if bt215.2.2.2.2 = true then (if t199 < (t210.length : Int) then (if ((((rd_T80 t210 t199).f0).toList) == bt215.1.toList && ((((rd_T80 t210 t199).f1).toList) == bt215.2.1.toList)) = true then (if 0 ≤ (wrap64 (t199 + 1)) then (if (wrap64 (t199 + 1)) < (t210.length : Int) then (if ((((rd_T80 t210 (wrap64 (t199 + 1))).f0).toList) == bt215.2.2.1.toList && ((((rd_T80 t210 (wrap64 (t199 + 1))).f1).toList) == bt215.2.2.2.1.toList)) = true then (if t199 ≤ (t210.length : Int) then (if t199 ≤ (t206.length : Int) then ((catchmentref02_Same.f kj28 (t210.take (t199 : Int).toNat) (t206.take (t199 : Int).toNat)).bind fun t237 => (if t237 = true then (if 0 ≤ (wrap64 (t199 + 2)) then (if (wrap64 (t199 + 2)) ≤ (t210.length : Int) then (if (wrap64 (t199 + 1)) ≤ (t206.length : Int) then ((catchmentref02_Same.f kj28 (t210.drop ((wrap64 (t199 + 2)) : Int).toNat) (t206.drop ((wrap64 (t199 + 1)) : Int).toNat)).bind fun t246 => (if t246 = true then (if bt222.2 = true then ((catchmentref03_Same.f kj28 bt222.1 t196_).bind fun t247 => (some t247)) else (none)) else (none))) else (none)) else (none)) else (none)) else (none))) else (none)) else (none)) else (none)) else (none)) else (none)) else (none)) else (none)) else (none)) else (none))))) else (none)) else (none)) = some r := by rw [if_neg (show ¬ (false = true) by decide)] at H; exact H
                    clear H
                    have H := H1
                    clear H1
                    by_cases c41 : 0 ≤ t199
                    · rw [if_pos c41] at H
                      have c41b0 : decide (0 ≤ t199) = true := decide_eq_true c41
                      clear c41
                      by_cases c42 : t199 < (t206.length : Int)
                      · rw [if_pos c42] at H
                        have c42b0 : decide (t199 < (t206.length : Int)) = true := decide_eq_true c42
                        clear c42
                        replace H := Option.bind_eq_some_iff.mp H
                        obtain ⟨⟨t215, t216, t217, t218, t219⟩, A430, H⟩ := H
                        replace H : ((pivot_Drop.f t200 t199).bind fun bt222 => ((catchmentlaw13_live.f kj28).bind fun t226 => (if t226 = true then (if t219 = true then (if t199 < (t210.length : Int) then (if ((((rd_T80 t210 t199).f0).toList) == t215.toList && ((((rd_T80 t210 t199).f1).toList) == t216.toList)) = true then (if 0 ≤ (wrap64 (t199 + 1)) then (if (wrap64 (t199 + 1)) < (t210.length : Int) then (if ((((rd_T80 t210 (wrap64 (t199 + 1))).f0).toList) == t217.toList && ((((rd_T80 t210 (wrap64 (t199 + 1))).f1).toList) == t218.toList)) = true then (if t199 ≤ (t210.length : Int) then (if t199 ≤ (t206.length : Int) then ((catchmentref02_Same.f kj28 (t210.take (t199 : Int).toNat) (t206.take (t199 : Int).toNat)).bind fun t237 => (if t237 = true then (if 0 ≤ (wrap64 (t199 + 2)) then (if (wrap64 (t199 + 2)) ≤ (t210.length : Int) then (if (wrap64 (t199 + 1)) ≤ (t206.length : Int) then ((catchmentref02_Same.f kj28 (t210.drop ((wrap64 (t199 + 2)) : Int).toNat) (t206.drop ((wrap64 (t199 + 1)) : Int).toNat)).bind fun t246 => (if t246 = true then (if bt222.2 = true then ((catchmentref03_Same.f kj28 bt222.1 t196_).bind fun t247 => (some t247)) else (none)) else (none))) else (none)) else (none)) else (none)) else (none))) else (none)) else (none)) else (none)) else (none)) else (none)) else (none)) else (none)) else (none)) else (none)))) = some r := H
                        have A43 := Aside0.mk A430
                        clear A430
                        replace H := Option.bind_eq_some_iff.mp H
                        obtain ⟨⟨t222, t225⟩, A440, H⟩ := H
                        replace H : ((catchmentlaw13_live.f kj28).bind fun t226 => (if t226 = true then (if t219 = true then (if t199 < (t210.length : Int) then (if ((((rd_T80 t210 t199).f0).toList) == t215.toList && ((((rd_T80 t210 t199).f1).toList) == t216.toList)) = true then (if 0 ≤ (wrap64 (t199 + 1)) then (if (wrap64 (t199 + 1)) < (t210.length : Int) then (if ((((rd_T80 t210 (wrap64 (t199 + 1))).f0).toList) == t217.toList && ((((rd_T80 t210 (wrap64 (t199 + 1))).f1).toList) == t218.toList)) = true then (if t199 ≤ (t210.length : Int) then (if t199 ≤ (t206.length : Int) then ((catchmentref02_Same.f kj28 (t210.take (t199 : Int).toNat) (t206.take (t199 : Int).toNat)).bind fun t237 => (if t237 = true then (if 0 ≤ (wrap64 (t199 + 2)) then (if (wrap64 (t199 + 2)) ≤ (t210.length : Int) then (if (wrap64 (t199 + 1)) ≤ (t206.length : Int) then ((catchmentref02_Same.f kj28 (t210.drop ((wrap64 (t199 + 2)) : Int).toNat) (t206.drop ((wrap64 (t199 + 1)) : Int).toNat)).bind fun t246 => (if t246 = true then (if t225 = true then ((catchmentref03_Same.f kj28 t222 t196_).bind fun t247 => (some t247)) else (none)) else (none))) else (none)) else (none)) else (none)) else (none))) else (none)) else (none)) else (none)) else (none)) else (none)) else (none)) else (none)) else (none)) else (none))) = some r := H
                        have A44 := Aside0.mk A440
                        clear A440
                        replace H := Option.bind_eq_some_iff.mp H
                        obtain ⟨t226, A450, H⟩ := H
                        replace H : (if t226 = true then (if t219 = true then (if t199 < (t210.length : Int) then (if ((((rd_T80 t210 t199).f0).toList) == t215.toList && ((((rd_T80 t210 t199).f1).toList) == t216.toList)) = true then (if 0 ≤ (wrap64 (t199 + 1)) then (if (wrap64 (t199 + 1)) < (t210.length : Int) then (if ((((rd_T80 t210 (wrap64 (t199 + 1))).f0).toList) == t217.toList && ((((rd_T80 t210 (wrap64 (t199 + 1))).f1).toList) == t218.toList)) = true then (if t199 ≤ (t210.length : Int) then (if t199 ≤ (t206.length : Int) then ((catchmentref02_Same.f kj28 (t210.take (t199 : Int).toNat) (t206.take (t199 : Int).toNat)).bind fun t237 => (if t237 = true then (if 0 ≤ (wrap64 (t199 + 2)) then (if (wrap64 (t199 + 2)) ≤ (t210.length : Int) then (if (wrap64 (t199 + 1)) ≤ (t206.length : Int) then ((catchmentref02_Same.f kj28 (t210.drop ((wrap64 (t199 + 2)) : Int).toNat) (t206.drop ((wrap64 (t199 + 1)) : Int).toNat)).bind fun t246 => (if t246 = true then (if t225 = true then ((catchmentref03_Same.f kj28 t222 t196_).bind fun t247 => (some t247)) else (none)) else (none))) else (none)) else (none)) else (none)) else (none))) else (none)) else (none)) else (none)) else (none)) else (none)) else (none)) else (none)) else (none)) else (none)) = some r := H
                        have A45 := Aside0.mk A450
                        clear A450
                        by_cases c46 : t226 = true
                        · subst c46
                          have H1 : (if t219 = true then (if t199 < (t210.length : Int) then (if ((((rd_T80 t210 t199).f0).toList) == t215.toList && ((((rd_T80 t210 t199).f1).toList) == t216.toList)) = true then (if 0 ≤ (wrap64 (t199 + 1)) then (if (wrap64 (t199 + 1)) < (t210.length : Int) then (if ((((rd_T80 t210 (wrap64 (t199 + 1))).f0).toList) == t217.toList && ((((rd_T80 t210 (wrap64 (t199 + 1))).f1).toList) == t218.toList)) = true then (if t199 ≤ (t210.length : Int) then (if t199 ≤ (t206.length : Int) then ((catchmentref02_Same.f kj28 (t210.take (t199 : Int).toNat) (t206.take (t199 : Int).toNat)).bind fun t237 => (if t237 = true then (if 0 ≤ (wrap64 (t199 + 2)) then (if (wrap64 (t199 + 2)) ≤ (t210.length : Int) then (if (wrap64 (t199 + 1)) ≤ (t206.length : Int) then ((catchmentref02_Same.f kj28 (t210.drop ((wrap64 (t199 + 2)) : Int).toNat) (t206.drop ((wrap64 (t199 + 1)) : Int).toNat)).bind fun t246 => (if t246 = true then (if t225 = true then ((catchmentref03_Same.f kj28 t222 t196_).bind fun t247 => (some t247)) else (none)) else (none))) else (none)) else (none)) else (none)) else (none))) else (none)) else (none)) else (none)) else (none)) else (none)) else (none)) else (none)) else (none)) = some r := by rw [if_pos rfl] at H; exact H
                          clear H
                          have H := H1
                          clear H1
                          by_cases c47 : t219 = true
                          · subst c47
                            have H1 : (if t199 < (t210.length : Int) then (if ((((rd_T80 t210 t199).f0).toList) == t215.toList && ((((rd_T80 t210 t199).f1).toList) == t216.toList)) = true then (if 0 ≤ (wrap64 (t199 + 1)) then (if (wrap64 (t199 + 1)) < (t210.length : Int) then (if ((((rd_T80 t210 (wrap64 (t199 + 1))).f0).toList) == t217.toList && ((((rd_T80 t210 (wrap64 (t199 + 1))).f1).toList) == t218.toList)) = true then (if t199 ≤ (t210.length : Int) then (if t199 ≤ (t206.length : Int) then ((catchmentref02_Same.f kj28 (t210.take (t199 : Int).toNat) (t206.take (t199 : Int).toNat)).bind fun t237 => (if t237 = true then (if 0 ≤ (wrap64 (t199 + 2)) then (if (wrap64 (t199 + 2)) ≤ (t210.length : Int) then (if (wrap64 (t199 + 1)) ≤ (t206.length : Int) then ((catchmentref02_Same.f kj28 (t210.drop ((wrap64 (t199 + 2)) : Int).toNat) (t206.drop ((wrap64 (t199 + 1)) : Int).toNat)).bind fun t246 => (if t246 = true then (if t225 = true then ((catchmentref03_Same.f kj28 t222 t196_).bind fun t247 => (some t247)) else (none)) else (none))) else (none)) else (none)) else (none)) else (none))) else (none)) else (none)) else (none)) else (none)) else (none)) else (none)) else (none)) = some r := by rw [if_pos rfl] at H; exact H
                            clear H
                            have H := H1
                            clear H1
                            by_cases c48 : t199 < (t210.length : Int)
                            · rw [if_pos c48] at H
                              have c48b0 : decide (t199 < (t210.length : Int)) = true := decide_eq_true c48
                              clear c48
                              by_cases c49 : ((((rd_T80 t210 t199).f0).toList) == t215.toList && ((((rd_T80 t210 t199).f1).toList) == t216.toList)) = true
                              · rw [if_pos c49] at H
                                have c49b0 : ((((rd_T80 t210 t199).f0).toList) == t215.toList && ((((rd_T80 t210 t199).f1).toList) == t216.toList)) = true := c49
                                (try (have c49b1 : decide ((((rd_T80 t210 t199).f0).toList) = t215.toList && ((((rd_T80 t210 t199).f1).toList) == t216.toList)) = true := by simpa using c49))
                                (try (have c49b2 : ((((rd_T80 t210 t199).f0).toList) == t215.toList && ((((rd_T80 t210 t199).f1).toList) == t216.toList)) = true := by simpa using c49))
                                clear c49
                                obtain ⟨ji50, hji50⟩ : ∃ j_ : Int, (wrap64 (t199 + 1)) = j_ := ⟨_, rfl⟩
                                replace H : (if 0 ≤ (ji50) then (if (ji50) < (t210.length : Int) then (if ((((rd_T80 t210 (ji50)).f0).toList) == t217.toList && ((((rd_T80 t210 (ji50)).f1).toList) == t218.toList)) = true then (if t199 ≤ (t210.length : Int) then (if t199 ≤ (t206.length : Int) then ((catchmentref02_Same.f kj28 (t210.take (t199 : Int).toNat) (t206.take (t199 : Int).toNat)).bind fun t237 => (if t237 = true then (if 0 ≤ (wrap64 (t199 + 2)) then (if (wrap64 (t199 + 2)) ≤ (t210.length : Int) then (if (ji50) ≤ (t206.length : Int) then ((catchmentref02_Same.f kj28 (t210.drop ((wrap64 (t199 + 2)) : Int).toNat) (t206.drop ((ji50) : Int).toNat)).bind fun t246 => (if t246 = true then (if t225 = true then ((catchmentref03_Same.f kj28 t222 t196_).bind fun t247 => (some t247)) else (none)) else (none))) else (none)) else (none)) else (none)) else (none))) else (none)) else (none)) else (none)) else (none)) else (none)) = some r := by first | (rw [hji50] at H; exact H) | (simp only [hji50] at H ⊢; exact H)
                                (try rw [hji50] at A43)
                                (try rw [hji50] at A44)
                                (try rw [hji50] at A45)
                                have hji50w : (IntKind.i64.wrap (t199 + 1)) = ji50 := (i64_w _).trans hji50
                                by_cases c51 : 0 ≤ (ji50)
                                · rw [if_pos c51] at H
                                  have c51b0 : decide (0 ≤ (ji50)) = true := decide_eq_true c51
                                  clear c51
                                  by_cases c52 : (ji50) < (t210.length : Int)
                                  · rw [if_pos c52] at H
                                    have c52b0 : decide ((ji50) < (t210.length : Int)) = true := decide_eq_true c52
                                    clear c52
                                    by_cases c53 : ((((rd_T80 t210 (ji50)).f0).toList) == t217.toList && ((((rd_T80 t210 (ji50)).f1).toList) == t218.toList)) = true
                                    · rw [if_pos c53] at H
                                      have c53b0 : ((((rd_T80 t210 (ji50)).f0).toList) == t217.toList && ((((rd_T80 t210 (ji50)).f1).toList) == t218.toList)) = true := c53
                                      (try (have c53b1 : decide ((((rd_T80 t210 (ji50)).f0).toList) = t217.toList && ((((rd_T80 t210 (ji50)).f1).toList) == t218.toList)) = true := by simpa using c53))
                                      (try (have c53b2 : ((((rd_T80 t210 (ji50)).f0).toList) == t217.toList && ((((rd_T80 t210 (ji50)).f1).toList) == t218.toList)) = true := by simpa using c53))
                                      clear c53
                                      have c54b0 := eq_true (of_decide_eq_true (by first | (with_reducible assumption) | assumption) : 0 ≤ t199)
                                      by_cases c55 : t199 ≤ (t210.length : Int)
                                      · rw [if_pos c55] at H
                                        have c55b0 := eq_true c55
                                        have c55b1 : decide (t199 ≤ (t210.length : Int)) = true := decide_eq_true c55
                                        clear c55
                                        obtain ⟨y229, hy229⟩ : ∃ y_ : List (S80), y_ = (t210.take (t199 : Int).toNat) := ⟨_, rfl⟩
                                        replace H : (if t199 ≤ (t206.length : Int) then ((catchmentref02_Same.f kj28 y229 (t206.take (t199 : Int).toNat)).bind fun t237 => (if t237 = true then (if 0 ≤ (wrap64 (t199 + 2)) then (if (wrap64 (t199 + 2)) ≤ (t210.length : Int) then (if (ji50) ≤ (t206.length : Int) then ((catchmentref02_Same.f kj28 (t210.drop ((wrap64 (t199 + 2)) : Int).toNat) (t206.drop ((ji50) : Int).toNat)).bind fun t246 => (if t246 = true then (if t225 = true then ((catchmentref03_Same.f kj28 t222 t196_).bind fun t247 => (some t247)) else (none)) else (none))) else (none)) else (none)) else (none)) else (none))) else (none)) = some r := by first | (rw [hy229]; with_reducible exact H) | (have H2_ := (Option.bind_some _ _).symm.trans H; rw [hy229]; with_reducible exact H2_) | (have H2_ := (Option.bind_some _ _).symm.trans H; with_reducible exact H2_) | with_reducible exact H | (rw [hy229]; exact H) | exact H
                                        have Ny229 := Aside0.mk hy229
                                        clear hy229
                                        have c56b0 := eq_true (of_decide_eq_true (by first | (with_reducible assumption) | assumption) : 0 ≤ t199)
                                        by_cases c57 : t199 ≤ (t206.length : Int)
                                        · rw [if_pos c57] at H
                                          have c57b0 := eq_true c57
                                          have c57b1 : decide (t199 ≤ (t206.length : Int)) = true := decide_eq_true c57
                                          clear c57
                                          obtain ⟨y233, hy233⟩ : ∃ y_ : List (S80), y_ = (t206.take (t199 : Int).toNat) := ⟨_, rfl⟩
                                          replace H : ((catchmentref02_Same.f kj28 y229 y233).bind fun t237 => (if t237 = true then (if 0 ≤ (wrap64 (t199 + 2)) then (if (wrap64 (t199 + 2)) ≤ (t210.length : Int) then (if (ji50) ≤ (t206.length : Int) then ((catchmentref02_Same.f kj28 (t210.drop ((wrap64 (t199 + 2)) : Int).toNat) (t206.drop ((ji50) : Int).toNat)).bind fun t246 => (if t246 = true then (if t225 = true then ((catchmentref03_Same.f kj28 t222 t196_).bind fun t247 => (some t247)) else (none)) else (none))) else (none)) else (none)) else (none)) else (none))) = some r := by first | (rw [hy233]; with_reducible exact H) | (have H2_ := (Option.bind_some _ _).symm.trans H; rw [hy233]; with_reducible exact H2_) | (have H2_ := (Option.bind_some _ _).symm.trans H; with_reducible exact H2_) | with_reducible exact H | (rw [hy233]; exact H) | exact H
                                          have Ny233 := Aside0.mk hy233
                                          clear hy233
                                          replace H := Option.bind_eq_some_iff.mp H
                                          obtain ⟨t237, A580, H⟩ := H
                                          replace H : (if t237 = true then (if 0 ≤ (wrap64 (t199 + 2)) then (if (wrap64 (t199 + 2)) ≤ (t210.length : Int) then (if (ji50) ≤ (t206.length : Int) then ((catchmentref02_Same.f kj28 (t210.drop ((wrap64 (t199 + 2)) : Int).toNat) (t206.drop ((ji50) : Int).toNat)).bind fun t246 => (if t246 = true then (if t225 = true then ((catchmentref03_Same.f kj28 t222 t196_).bind fun t247 => (some t247)) else (none)) else (none))) else (none)) else (none)) else (none)) else (none)) = some r := H
                                          have A58 := Aside0.mk A580
                                          clear A580
                                          by_cases c59 : t237 = true
                                          · subst c59
                                            have H1 : (if 0 ≤ (wrap64 (t199 + 2)) then (if (wrap64 (t199 + 2)) ≤ (t210.length : Int) then (if (ji50) ≤ (t206.length : Int) then ((catchmentref02_Same.f kj28 (t210.drop ((wrap64 (t199 + 2)) : Int).toNat) (t206.drop ((ji50) : Int).toNat)).bind fun t246 => (if t246 = true then (if t225 = true then ((catchmentref03_Same.f kj28 t222 t196_).bind fun t247 => (some t247)) else (none)) else (none))) else (none)) else (none)) else (none)) = some r := by rw [if_pos rfl] at H; exact H
                                            clear H
                                            have H := H1
                                            clear H1
                                            obtain ⟨ji60, hji60⟩ : ∃ j_ : Int, (wrap64 (t199 + 2)) = j_ := ⟨_, rfl⟩
                                            replace H : (if 0 ≤ (ji60) then (if (ji60) ≤ (t210.length : Int) then (if (ji50) ≤ (t206.length : Int) then ((catchmentref02_Same.f kj28 (t210.drop ((ji60) : Int).toNat) (t206.drop ((ji50) : Int).toNat)).bind fun t246 => (if t246 = true then (if t225 = true then ((catchmentref03_Same.f kj28 t222 t196_).bind fun t247 => (some t247)) else (none)) else (none))) else (none)) else (none)) else (none)) = some r := by first | (rw [hji60] at H; exact H) | (simp only [hji60] at H ⊢; exact H)
                                            (try rw [hji60] at A43)
                                            (try rw [hji60] at A44)
                                            (try rw [hji60] at A45)
                                            (try rw [hji60] at A58)
                                            have hji60w : (IntKind.i64.wrap (t199 + 2)) = ji60 := (i64_w _).trans hji60
                                            by_cases c61 : 0 ≤ (ji60)
                                            · rw [if_pos c61] at H
                                              have c61b0 := eq_true c61
                                              have c61b1 : decide (0 ≤ (ji60)) = true := decide_eq_true c61
                                              clear c61
                                              by_cases c62 : (ji60) ≤ (t210.length : Int)
                                              · rw [if_pos c62] at H
                                                have c62b0 := eq_true c62
                                                have c62b1 : decide ((ji60) ≤ (t210.length : Int)) = true := decide_eq_true c62
                                                clear c62
                                                obtain ⟨y238, hy238⟩ : ∃ y_ : List (S80), y_ = (t210.drop ((ji60) : Int).toNat) := ⟨_, rfl⟩
                                                replace H : (if (ji50) ≤ (t206.length : Int) then ((catchmentref02_Same.f kj28 y238 (t206.drop ((ji50) : Int).toNat)).bind fun t246 => (if t246 = true then (if t225 = true then ((catchmentref03_Same.f kj28 t222 t196_).bind fun t247 => (some t247)) else (none)) else (none))) else (none)) = some r := by first | (rw [hy238]; with_reducible exact H) | (have H2_ := (Option.bind_some _ _).symm.trans H; rw [hy238]; with_reducible exact H2_) | (have H2_ := (Option.bind_some _ _).symm.trans H; with_reducible exact H2_) | with_reducible exact H | (rw [hy238]; exact H) | exact H
                                                have Ny238 := Aside0.mk hy238
                                                clear hy238
                                                have c63b0 := eq_true (of_decide_eq_true (by first | (with_reducible assumption) | assumption) : 0 ≤ (ji50))
                                                by_cases c64 : (ji50) ≤ (t206.length : Int)
                                                · rw [if_pos c64] at H
                                                  have c64b0 := eq_true c64
                                                  have c64b1 : decide ((ji50) ≤ (t206.length : Int)) = true := decide_eq_true c64
                                                  clear c64
                                                  obtain ⟨y242, hy242⟩ : ∃ y_ : List (S80), y_ = (t206.drop ((ji50) : Int).toNat) := ⟨_, rfl⟩
                                                  replace H : ((catchmentref02_Same.f kj28 y238 y242).bind fun t246 => (if t246 = true then (if t225 = true then ((catchmentref03_Same.f kj28 t222 t196_).bind fun t247 => (some t247)) else (none)) else (none))) = some r := by first | (rw [hy242]; with_reducible exact H) | (have H2_ := (Option.bind_some _ _).symm.trans H; rw [hy242]; with_reducible exact H2_) | (have H2_ := (Option.bind_some _ _).symm.trans H; with_reducible exact H2_) | with_reducible exact H | (rw [hy242]; exact H) | exact H
                                                  have Ny242 := Aside0.mk hy242
                                                  clear hy242
                                                  replace H := Option.bind_eq_some_iff.mp H
                                                  obtain ⟨t246, A650, H⟩ := H
                                                  replace H : (if t246 = true then (if t225 = true then ((catchmentref03_Same.f kj28 t222 t196_).bind fun t247 => (some t247)) else (none)) else (none)) = some r := H
                                                  have A65 := Aside0.mk A650
                                                  clear A650
                                                  by_cases c66 : t246 = true
                                                  · subst c66
                                                    have H1 : (if t225 = true then ((catchmentref03_Same.f kj28 t222 t196_).bind fun t247 => (some t247)) else (none)) = some r := by rw [if_pos rfl] at H; exact H
                                                    clear H
                                                    have H := H1
                                                    clear H1
                                                    by_cases c67 : t225 = true
                                                    · subst c67
                                                      have H1 : ((catchmentref03_Same.f kj28 t222 t196_).bind fun t247 => (some t247)) = some r := by rw [if_pos rfl] at H; exact H
                                                      clear H
                                                      have H := H1
                                                      clear H1
                                                      replace H := Option.bind_eq_some_iff.mp H
                                                      obtain ⟨t247, A680, H⟩ := H
                                                      replace H : (some t247) = some r := H
                                                      have A68 := Aside0.mk A680
                                                      clear A680
                                                      obtain rfl := Option.some.inj H
                                                      obtain ⟨Ao69, co69, eo69⟩ := Kd.R_slice HO_10.out
                                                      subst eo69
                                                      have p214 : 0 ≤ (t199 : Int) := of_decide_eq_true (by first | (with_reducible assumption) | assumption)
                                                      have q214 : t199 < (t206.length : Int) := of_decide_eq_true (by first | (with_reducible assumption) | assumption)
                                                      (try (obtain ⟨Az214, cz214, ez214⟩ := Kd.R_slice HO_10.out; subst ez214))
                                                      obtain ⟨ad214, e214, hx214_0, hx214_1⟩ := at_T80 (Kd.R_reads' HO_10.out).2.2 t199 p214 q214
                                                      cases e214
                                                      replace p214 := eq_true p214
                                                      replace q214 := eq_true q214
                                                      try go_wp2_with (first | ((with_reducible refine gate_callee (f := 62) rfl ?_); refine goesL_ (some 83) rfl rfl Try.func62 (by kernel_rfl) rfl #[.agg #[.string ((rd_T80 t206 t199).f0), .string ((rd_T80 t206 t199).f1)], .string a2] rfl (by (try simp only [List.map_toArray, List.map_cons, List.map_nil]); first | done | rfl | (simp only [List.length_drop, List.length_take]; rfl)) ?_; (with_reducible refine (catchmentref02_Split.calls ((rd_T80 t206 t199).f0) ((rd_T80 t206 t199).f1) a2 t215 t216 t217 t218 true _ A43.out).mono ?_); rintro e w70 ⟨rfl, hb⟩; refine ⟨_, rfl, ?_⟩; have n0_ := Aside0.mk (Kd.R_below (by (with_reducible repeat (first | apply Kd.R_alloc | apply Kd.R_drewN | apply Kd.R_drew)); exact HO_8.out) hb); have n1_ := Aside0.mk (Kd.R_below (by (with_reducible repeat (first | apply Kd.R_alloc | apply Kd.R_drewN | apply Kd.R_drew)); exact HO_10.out) hb); have n2_ := Aside0.mk (Kd.R_below (by (with_reducible repeat (first | apply Kd.R_alloc | apply Kd.R_drewN | apply Kd.R_drew)); exact HO_12.out) hb); have n3_ := Aside0.mk (blk_below (g := gb195) (o := .cells #[.string a1_0, .string a1_1] 80 (0, 0)) (by (with_reducible repeat (first | refine blk_drewN ?_ _ | refine blk_drew ?_ | refine blk_alloc ?_ _)); exact BK195.out) hb); have n4_ := Aside0.mk (below_step (by repeat (first | (with_reducible first | exact HB.out | apply below_alloc | apply pw_below_drewN | apply below_drew1 | refine below_set ?_ GE195.out) | exact HB.out)) hb); clear HO_8; clear HO_10; clear HO_12; clear BK195; clear HB; have HO_8 := n0_; have HO_10 := n1_; have HO_12 := n2_; have BK195 := n3_; have HB := n4_; clear n0_ n1_ n2_ n3_ n4_; (try clear hb); (try clear hb2); (try clear hk); (try clear hi)) | ((with_reducible refine gate_dst (N := 14) rfl ?_); (try (refine gate_guard (by rfl) ?_; dsimp only)); refine box_event ?hg (N := 14) ?hd (cs := #[.string (⟨#[]⟩ : ByteArray), .string (⟨#[]⟩ : ByteArray)]) (t := 80) ?hr ?_; (case hd => rfl); (case hg => rfl); (case hr => first | (go_simp; done) | (go_simp; rfl)); intro gb220 hg w71 hbox hb; have n0_ := Aside0.mk (Kd.R_below (by (with_reducible repeat (first | apply Kd.R_alloc | apply Kd.R_drewN | apply Kd.R_drew)); exact HO_8.out) hb); have n1_ := Aside0.mk (Kd.R_below (Kd.R_elderB (by (with_reducible repeat (first | apply Kd.R_alloc | apply Kd.R_drewN | apply Kd.R_drew)); exact HO_10.out) gb220 (Nat.le_of_eq hg.symm)) hb); have n2_ := Aside0.mk (Kd.R_below (Kd.R_elderB (by (with_reducible repeat (first | apply Kd.R_alloc | apply Kd.R_drewN | apply Kd.R_drew)); exact HO_12.out) gb220 (Nat.le_of_eq hg.symm)) hb); have n3_ := Aside0.mk (blk_below (g := gb195) (o := .cells #[.string a1_0, .string a1_1] 80 (0, 0)) (by (with_reducible repeat (first | refine blk_drewN ?_ _ | refine blk_drew ?_ | refine blk_alloc ?_ _)); exact BK195.out) hb); have n4_ := Aside0.mk (below_step (by repeat (first | (with_reducible first | exact HB.out | apply below_alloc | apply pw_below_drewN | apply below_drew1 | refine below_set ?_ GE195.out) | exact HB.out)) hb); have n5_ := Aside0.mk (hbox); have n6_ := Aside0.mk ((by rw [hg]; exact (below_size (by repeat (first | (with_reducible first | exact HB.out | apply below_alloc | apply pw_below_drewN | apply below_drew1 | refine below_set ?_ GE195.out) | exact HB.out))) : w.heap.size ≤ gb220)); have n7_ := Aside0.mk ((by rw [hg]; exact (below_size (by repeat (first | (with_reducible first | exact HB.out | apply below_alloc | apply pw_below_drewN | apply below_drew1 | refine below_set ?_ GE195.out) | exact HB.out))) : w.heap.size ≤ gb220)); have n8_ := Aside0.mk ((by rw [hg]; exact Nat.ne_of_lt (blk_lt (g := gb195) (o := .cells #[.string a1_0, .string a1_1] 80 (0, 0)) (by (with_reducible repeat (first | refine blk_drewN ?_ _ | refine blk_drew ?_ | refine blk_alloc ?_ _)); exact BK195.out)) : gb195 ≠ gb220)); have n9_ := Aside0.mk ((by rw [hg]; exact Nat.ne_of_gt (blk_lt (g := gb195) (o := .cells #[.string a1_0, .string a1_1] 80 (0, 0)) (by (with_reducible repeat (first | refine blk_drewN ?_ _ | refine blk_drew ?_ | refine blk_alloc ?_ _)); exact BK195.out)) : gb220 ≠ gb195)); clear HO_8; clear HO_10; clear HO_12; clear BK195; clear HB; have HO_8 := n0_; have HO_10 := n1_; have HO_12 := n2_; have BK195 := n3_; have HB := n4_; have BK220 := n5_; have GW220 := n6_; have GE220 := n7_; have NB195_220 := n8_; have NB220_195 := n9_; clear n0_ n1_ n2_ n3_ n4_ n5_ n6_ n7_ n8_ n9_; clear hb hbox hg) | ((with_reducible refine gate_dst (N := 15) rfl ?_); (try (refine gate_guard (by rfl) ?_; dsimp only)); refine box_event ?hg (N := 15) ?hd (cs := #[.string (⟨#[]⟩ : ByteArray), .string (⟨#[]⟩ : ByteArray)]) (t := 80) ?hr ?_; (case hd => rfl); (case hg => rfl); (case hr => first | (go_simp; done) | (go_simp; rfl)); intro gb221 hg w72 hbox hb; have n0_ := Aside0.mk (Kd.R_below (by (with_reducible repeat (first | apply Kd.R_alloc | apply Kd.R_drewN | apply Kd.R_drew)); exact HO_8.out) hb); have n1_ := Aside0.mk (Kd.R_below (Kd.R_elderB (by (with_reducible repeat (first | apply Kd.R_alloc | apply Kd.R_drewN | apply Kd.R_drew)); exact HO_10.out) gb221 (Nat.le_of_eq hg.symm)) hb); have n2_ := Aside0.mk (Kd.R_below (Kd.R_elderB (by (with_reducible repeat (first | apply Kd.R_alloc | apply Kd.R_drewN | apply Kd.R_drew)); exact HO_12.out) gb221 (Nat.le_of_eq hg.symm)) hb); have n3_ := Aside0.mk (blk_below (g := gb195) (o := .cells #[.string a1_0, .string a1_1] 80 (0, 0)) (by (with_reducible repeat (first | refine blk_drewN ?_ _ | refine blk_drew ?_ | refine blk_alloc ?_ _)); exact BK195.out) hb); have n4_ := Aside0.mk (blk_below (g := gb220) (o := .cells #[.string (⟨#[]⟩ : ByteArray), .string (⟨#[]⟩ : ByteArray)] 80 (0, 0)) (by (with_reducible repeat (first | refine blk_drewN ?_ _ | refine blk_drew ?_ | refine blk_alloc ?_ _)); exact BK220.out) hb); have n5_ := Aside0.mk (below_step (by repeat (first | (with_reducible first | exact HB.out | apply below_alloc | apply pw_below_drewN | apply below_drew1 | refine below_set ?_ GE195.out | refine below_set ?_ GE220.out) | exact HB.out)) hb); have n6_ := Aside0.mk (hbox); have n7_ := Aside0.mk ((by rw [hg]; exact (below_size (by repeat (first | (with_reducible first | exact HB.out | apply below_alloc | apply pw_below_drewN | apply below_drew1 | refine below_set ?_ GE195.out | refine below_set ?_ GE220.out) | exact HB.out))) : w.heap.size ≤ gb221)); have n8_ := Aside0.mk ((by rw [hg]; exact (below_size (by repeat (first | (with_reducible first | exact HB.out | apply below_alloc | apply pw_below_drewN | apply below_drew1 | refine below_set ?_ GE195.out | refine below_set ?_ GE220.out) | exact HB.out))) : w.heap.size ≤ gb221)); have n9_ := Aside0.mk ((by rw [hg]; exact Nat.ne_of_lt (blk_lt (g := gb195) (o := .cells #[.string a1_0, .string a1_1] 80 (0, 0)) (by (with_reducible repeat (first | refine blk_drewN ?_ _ | refine blk_drew ?_ | refine blk_alloc ?_ _)); exact BK195.out)) : gb195 ≠ gb221)); have n10_ := Aside0.mk ((by rw [hg]; exact Nat.ne_of_gt (blk_lt (g := gb195) (o := .cells #[.string a1_0, .string a1_1] 80 (0, 0)) (by (with_reducible repeat (first | refine blk_drewN ?_ _ | refine blk_drew ?_ | refine blk_alloc ?_ _)); exact BK195.out)) : gb221 ≠ gb195)); have n11_ := Aside0.mk ((by rw [hg]; exact Nat.ne_of_lt (blk_lt (g := gb220) (o := .cells #[.string (⟨#[]⟩ : ByteArray), .string (⟨#[]⟩ : ByteArray)] 80 (0, 0)) (by (with_reducible repeat (first | refine blk_drewN ?_ _ | refine blk_drew ?_ | refine blk_alloc ?_ _)); exact BK220.out)) : gb220 ≠ gb221)); have n12_ := Aside0.mk ((by rw [hg]; exact Nat.ne_of_gt (blk_lt (g := gb220) (o := .cells #[.string (⟨#[]⟩ : ByteArray), .string (⟨#[]⟩ : ByteArray)] 80 (0, 0)) (by (with_reducible repeat (first | refine blk_drewN ?_ _ | refine blk_drew ?_ | refine blk_alloc ?_ _)); exact BK220.out)) : gb221 ≠ gb220)); clear HO_8; clear HO_10; clear HO_12; clear BK195; clear BK220; clear HB; have HO_8 := n0_; have HO_10 := n1_; have HO_12 := n2_; have BK195 := n3_; have BK220 := n4_; have HB := n5_; have BK221 := n6_; have GW221 := n7_; have GE221 := n8_; have NB195_221 := n9_; have NB221_195 := n10_; have NB220_221 := n11_; have NB221_220 := n12_; clear n0_ n1_ n2_ n3_ n4_ n5_ n6_ n7_ n8_ n9_ n10_ n11_ n12_; clear hb hbox hg; have hnb73 := NB220_195.out; have hnc73 := NB195_220.out; have hnb74 := NB220_221.out; have hnc74 := NB221_220.out; have hcz75_0 : w72.cell? ⟨gb220, 0, none⟩ = some (.string (⟨#[]⟩ : ByteArray)) := (blk_cell BK220.out 0).trans rfl; have hcz75_1 : w72.cell? ⟨gb220, 1, none⟩ = some (.string (⟨#[]⟩ : ByteArray)) := (blk_cell BK220.out 1).trans rfl; have hfz75_0 := blk_frozen BK220.out 0; have hfz75_1 := blk_frozen BK220.out 1) | ((with_reducible refine gate_store (t := 80) (p := 14) rfl ?_); refine store_event (t := 80) (p := 14) (v := ?vo_w76) (w1 := ((w72.setCell ⟨gb220, 0, none⟩ (.string t215)).setCell ⟨gb220, 1, none⟩ (.string t216))) ?hg ?ho ?hn ?hr ?_; (case ho => rfl); (case hg => rfl); (case hn => rfl); (case hr => first | (go_simp; done) | (go_simp; rfl)); intro w76 hw; have n0_ : Aside0 (Kd.R Kd.string 9 w76 w.heap.size (fun _ => True) (.slice Ao33 t200.length co33) t200) := ⟨(by rw [hw]; exact (by (with_reducible repeat (first | apply Kd.R_alloc | apply Kd.R_drewN | apply Kd.R_drew)); exact Kd.R_mono (Kd.R_far (p := ⟨gb220, 1, none⟩) (Kd.R_far (p := ⟨gb220, 0, none⟩) (Kd.R_types HO_8.out BK220.out (by decide)) (fun _ hk => hk.2) (.string t215)) (fun _ hk => hk.2) (.string t216)) (fun _ hk => trivial)))⟩; have n1_ : Aside0 (Kd.R k80 80 w76 w.heap.size (fun k_ => some k_ ≠ (v211 : Value).ownBlock ∧ k_ ≠ gb195 ∧ k_ ≠ gb220 ∧ k_ ≠ gb221) (.slice (some ad214) t206.length co69) t206) := ⟨(by rw [hw]; exact (by (with_reducible repeat (first | apply Kd.R_alloc | apply Kd.R_drewN | apply Kd.R_drew)); exact Kd.R_mono (Kd.R_far (p := ⟨gb220, 1, none⟩) (Kd.R_far (p := ⟨gb220, 0, none⟩) (Kd.R_mono HO_10.out (fun k_ hk => (⟨hk, hk.1.2⟩ : _ ∧ k_ ≠ gb220))) (fun _ hk => hk.2) (.string t215)) (fun _ hk => hk.2) (.string t216)) (fun _ hk => ⟨hk.1.1.1.1, ⟨hk.1.1.1.2, ⟨hk.1.1.2, hk.1.2⟩⟩⟩)))⟩; have n2_ : Aside0 (Kd.R k80 80 w76 w.heap.size (fun k_ => some k_ ≠ (.slice (some ad214) t206.length co69 : Value).ownBlock ∧ k_ ≠ gb195 ∧ k_ ≠ gb220 ∧ k_ ≠ gb221) v211 t210) := ⟨(by rw [hw]; exact (by (with_reducible repeat (first | apply Kd.R_alloc | apply Kd.R_drewN | apply Kd.R_drew)); exact Kd.R_mono (Kd.R_far (p := ⟨gb220, 1, none⟩) (Kd.R_far (p := ⟨gb220, 0, none⟩) (Kd.R_mono HO_12.out (fun k_ hk => (⟨hk, hk.1.2⟩ : _ ∧ k_ ≠ gb220))) (fun _ hk => hk.2) (.string t215)) (fun _ hk => hk.2) (.string t216)) (fun _ hk => ⟨hk.1.1.1.1, ⟨hk.1.1.1.2, ⟨hk.1.1.2, hk.1.2⟩⟩⟩)))⟩; have n3_ : Aside0 (w76.heap[gb195]? = some (.cells #[.string a1_0, .string a1_1] 80 (0, 0))) := ⟨(by rw [hw]; exact (by (with_reducible repeat (first | refine blk_drewN ?_ _ | refine blk_drew ?_ | refine blk_alloc ?_ _)); refine blk_far ?_ NB195_220.out _; (with_reducible repeat (first | refine blk_drewN ?_ _ | refine blk_drew ?_ | refine blk_alloc ?_ _)); refine blk_far ?_ NB195_220.out _; (with_reducible repeat (first | refine blk_drewN ?_ _ | refine blk_drew ?_ | refine blk_alloc ?_ _)); exact BK195.out))⟩; have n4_ : Aside0 (w76.heap[gb220]? = some (.cells #[.string t215, .string t216] 80 (0, 0))) := ⟨(by rw [hw]; exact (by (with_reducible repeat (first | refine blk_drewN ?_ _ | refine blk_drew ?_ | refine blk_alloc ?_ _)); refine blk_put (cs := #[.string t215, .string (⟨#[]⟩ : ByteArray)]) ?_ 1 _ rfl; (with_reducible repeat (first | refine blk_drewN ?_ _ | refine blk_drew ?_ | refine blk_alloc ?_ _)); refine blk_put (cs := #[.string (⟨#[]⟩ : ByteArray), .string (⟨#[]⟩ : ByteArray)]) ?_ 0 _ rfl; (with_reducible repeat (first | refine blk_drewN ?_ _ | refine blk_drew ?_ | refine blk_alloc ?_ _)); exact BK220.out))⟩; have n5_ : Aside0 (w76.heap[gb221]? = some (.cells #[.string (⟨#[]⟩ : ByteArray), .string (⟨#[]⟩ : ByteArray)] 80 (0, 0))) := ⟨(by rw [hw]; exact (by (with_reducible repeat (first | refine blk_drewN ?_ _ | refine blk_drew ?_ | refine blk_alloc ?_ _)); refine blk_far ?_ NB221_220.out _; (with_reducible repeat (first | refine blk_drewN ?_ _ | refine blk_drew ?_ | refine blk_alloc ?_ _)); refine blk_far ?_ NB221_220.out _; (with_reducible repeat (first | refine blk_drewN ?_ _ | refine blk_drew ?_ | refine blk_alloc ?_ _)); exact BK221.out))⟩; have n6_ : Aside0 (Below w.heap.size w w76) := ⟨(by rw [hw]; exact (by repeat (first | (with_reducible first | exact HB.out | apply below_alloc | apply pw_below_drewN | apply below_drew1 | refine below_set ?_ GE195.out | refine below_set ?_ GE220.out | refine below_set ?_ GE221.out) | exact HB.out)))⟩; clear hw; clear HO_8; clear HO_10; clear HO_12; clear BK195; clear BK220; clear BK221; clear HB; have HO_8 := n0_; have HO_10 := n1_; have HO_12 := n2_; have BK195 := n3_; have BK220 := n4_; have BK221 := n5_; have HB := n6_; clear n0_ n1_ n2_ n3_ n4_ n5_ n6_; have hnb77 := NB221_195.out; have hnc77 := NB195_221.out; have hcz78_0 : w76.cell? ⟨gb221, 0, none⟩ = some (.string (⟨#[]⟩ : ByteArray)) := (blk_cell BK221.out 0).trans rfl; have hcz78_1 : w76.cell? ⟨gb221, 1, none⟩ = some (.string (⟨#[]⟩ : ByteArray)) := (blk_cell BK221.out 1).trans rfl; have hfz78_0 := blk_frozen BK221.out 0; have hfz78_1 := blk_frozen BK221.out 1) | ((with_reducible refine gate_store (t := 80) (p := 15) rfl ?_); refine store_event (t := 80) (p := 15) (v := ?vo_w79) (w1 := ((w76.setCell ⟨gb221, 0, none⟩ (.string t217)).setCell ⟨gb221, 1, none⟩ (.string t218))) ?hg ?ho ?hn ?hr ?_; (case ho => rfl); (case hg => rfl); (case hn => rfl); (case hr => first | (go_simp; done) | (go_simp; rfl)); intro w79 hw; have n0_ : Aside0 (Kd.R Kd.string 9 w79 w.heap.size (fun _ => True) (.slice Ao33 t200.length co33) t200) := ⟨(by rw [hw]; exact (by (with_reducible repeat (first | apply Kd.R_alloc | apply Kd.R_drewN | apply Kd.R_drew)); exact Kd.R_mono (Kd.R_far (p := ⟨gb221, 1, none⟩) (Kd.R_far (p := ⟨gb221, 0, none⟩) (Kd.R_types HO_8.out BK221.out (by decide)) (fun _ hk => hk.2) (.string t217)) (fun _ hk => hk.2) (.string t218)) (fun _ hk => trivial)))⟩; have n1_ : Aside0 (Kd.R k80 80 w79 w.heap.size (fun k_ => some k_ ≠ (v211 : Value).ownBlock ∧ k_ ≠ gb195 ∧ k_ ≠ gb220 ∧ k_ ≠ gb221) (.slice (some ad214) t206.length co69) t206) := ⟨(by rw [hw]; exact (by (with_reducible repeat (first | apply Kd.R_alloc | apply Kd.R_drewN | apply Kd.R_drew)); exact Kd.R_mono (Kd.R_far (p := ⟨gb221, 1, none⟩) (Kd.R_far (p := ⟨gb221, 0, none⟩) (Kd.R_mono HO_10.out (fun k_ hk => (⟨hk, hk.2.2.2⟩ : _ ∧ k_ ≠ gb221))) (fun _ hk => hk.2) (.string t217)) (fun _ hk => hk.2) (.string t218)) (fun _ hk => ⟨hk.1.1, ⟨hk.1.2.1, ⟨hk.1.2.2.1, hk.1.2.2.2⟩⟩⟩)))⟩; have n2_ : Aside0 (Kd.R k80 80 w79 w.heap.size (fun k_ => some k_ ≠ (.slice (some ad214) t206.length co69 : Value).ownBlock ∧ k_ ≠ gb195 ∧ k_ ≠ gb220 ∧ k_ ≠ gb221) v211 t210) := ⟨(by rw [hw]; exact (by (with_reducible repeat (first | apply Kd.R_alloc | apply Kd.R_drewN | apply Kd.R_drew)); exact Kd.R_mono (Kd.R_far (p := ⟨gb221, 1, none⟩) (Kd.R_far (p := ⟨gb221, 0, none⟩) (Kd.R_mono HO_12.out (fun k_ hk => (⟨hk, hk.2.2.2⟩ : _ ∧ k_ ≠ gb221))) (fun _ hk => hk.2) (.string t217)) (fun _ hk => hk.2) (.string t218)) (fun _ hk => ⟨hk.1.1, ⟨hk.1.2.1, ⟨hk.1.2.2.1, hk.1.2.2.2⟩⟩⟩)))⟩; have n3_ : Aside0 (w79.heap[gb195]? = some (.cells #[.string a1_0, .string a1_1] 80 (0, 0))) := ⟨(by rw [hw]; exact (by (with_reducible repeat (first | refine blk_drewN ?_ _ | refine blk_drew ?_ | refine blk_alloc ?_ _)); refine blk_far ?_ NB195_221.out _; (with_reducible repeat (first | refine blk_drewN ?_ _ | refine blk_drew ?_ | refine blk_alloc ?_ _)); refine blk_far ?_ NB195_221.out _; (with_reducible repeat (first | refine blk_drewN ?_ _ | refine blk_drew ?_ | refine blk_alloc ?_ _)); exact BK195.out))⟩; have n4_ : Aside0 (w79.heap[gb220]? = some (.cells #[.string t215, .string t216] 80 (0, 0))) := ⟨(by rw [hw]; exact (by (with_reducible repeat (first | refine blk_drewN ?_ _ | refine blk_drew ?_ | refine blk_alloc ?_ _)); refine blk_far ?_ NB220_221.out _; (with_reducible repeat (first | refine blk_drewN ?_ _ | refine blk_drew ?_ | refine blk_alloc ?_ _)); refine blk_far ?_ NB220_221.out _; (with_reducible repeat (first | refine blk_drewN ?_ _ | refine blk_drew ?_ | refine blk_alloc ?_ _)); exact BK220.out))⟩; have n5_ : Aside0 (w79.heap[gb221]? = some (.cells #[.string t217, .string t218] 80 (0, 0))) := ⟨(by rw [hw]; exact (by (with_reducible repeat (first | refine blk_drewN ?_ _ | refine blk_drew ?_ | refine blk_alloc ?_ _)); refine blk_put (cs := #[.string t217, .string (⟨#[]⟩ : ByteArray)]) ?_ 1 _ rfl; (with_reducible repeat (first | refine blk_drewN ?_ _ | refine blk_drew ?_ | refine blk_alloc ?_ _)); refine blk_put (cs := #[.string (⟨#[]⟩ : ByteArray), .string (⟨#[]⟩ : ByteArray)]) ?_ 0 _ rfl; (with_reducible repeat (first | refine blk_drewN ?_ _ | refine blk_drew ?_ | refine blk_alloc ?_ _)); exact BK221.out))⟩; have n6_ : Aside0 (Below w.heap.size w w79) := ⟨(by rw [hw]; exact (by repeat (first | (with_reducible first | exact HB.out | apply below_alloc | apply pw_below_drewN | apply below_drew1 | refine below_set ?_ GE195.out | refine below_set ?_ GE220.out | refine below_set ?_ GE221.out) | exact HB.out)))⟩; clear hw; clear HO_8; clear HO_10; clear HO_12; clear BK195; clear BK220; clear BK221; clear HB; have HO_8 := n0_; have HO_10 := n1_; have HO_12 := n2_; have BK195 := n3_; have BK220 := n4_; have BK221 := n5_; have HB := n6_; clear n0_ n1_ n2_ n3_ n4_ n5_ n6_) | ((with_reducible refine gate_callee (f := 63) rfl ?_); refine goesL_ (some 90) rfl rfl Try.func63 (by kernel_rfl) rfl #[.slice Ao33 t200.length co33, .int .i64 t199] rfl (by (try simp only [List.map_toArray, List.map_cons, List.map_nil]); first | done | rfl | (simp only [List.length_drop, List.length_take]; rfl)) ?_; (with_reducible refine (pivot_Drop.calls (fun k_ => some k_ = (.slice Ao33 t200.length co33 : Value).ownBlock) _ _ t200 t199 t222 true _ ?side1 A44.out).mono ?_); (case side1 => exact Kd.R_V (Kd.R_tight rfl (Kd.R_types (Kd.R_types (Kd.R_types (Kd.R_apart' (Kd.R_apart' (HO_8.out) (Kd.R_typed HO_10.out) (by decide)) (Kd.R_typed HO_12.out) (by decide)) BK195.out (by decide)) BK220.out (by decide)) BK221.out (by decide)))); rintro e w80 ⟨v223, rfl, ho0, hb⟩; refine ⟨_, rfl, ?_⟩; have n0_ := Aside0.mk (Kd.R_elder' (by (with_reducible repeat (first | apply Kd.R_alloc | apply Kd.R_drewN | apply Kd.R_drew)); exact HO_8.out) (Kd.R_base ho0) hb); have n1_ := Aside0.mk (Kd.R_below (by (with_reducible repeat (first | apply Kd.R_alloc | apply Kd.R_drewN | apply Kd.R_drew)); exact HO_10.out) hb); have n2_ := Aside0.mk (Kd.R_below (by (with_reducible repeat (first | apply Kd.R_alloc | apply Kd.R_drewN | apply Kd.R_drew)); exact HO_12.out) hb); have n3_ := Aside0.mk (Kd.R_lower (Kd.R_new' (Kd.R_mono (ok' := fun k_ => True) ho0 (fun _ hk_ => trivial)) (Kd.R_lt (by (with_reducible repeat (first | apply Kd.R_alloc | apply Kd.R_drewN | apply Kd.R_drew)); exact HO_8.out))) (below_size (by repeat (first | (with_reducible first | exact HB.out | apply below_alloc | apply pw_below_drewN | apply below_drew1 | refine below_set ?_ GE195.out | refine below_set ?_ GE220.out | refine below_set ?_ GE221.out) | exact HB.out)))); have n4_ := Aside0.mk (blk_below (g := gb195) (o := .cells #[.string a1_0, .string a1_1] 80 (0, 0)) (by (with_reducible repeat (first | refine blk_drewN ?_ _ | refine blk_drew ?_ | refine blk_alloc ?_ _)); exact BK195.out) hb); have n5_ := Aside0.mk (blk_below (g := gb220) (o := .cells #[.string t215, .string t216] 80 (0, 0)) (by (with_reducible repeat (first | refine blk_drewN ?_ _ | refine blk_drew ?_ | refine blk_alloc ?_ _)); exact BK220.out) hb); have n6_ := Aside0.mk (blk_below (g := gb221) (o := .cells #[.string t217, .string t218] 80 (0, 0)) (by (with_reducible repeat (first | refine blk_drewN ?_ _ | refine blk_drew ?_ | refine blk_alloc ?_ _)); exact BK221.out) hb); have n7_ := Aside0.mk (below_step (by repeat (first | (with_reducible first | exact HB.out | apply below_alloc | apply pw_below_drewN | apply below_drew1 | refine below_set ?_ GE195.out | refine below_set ?_ GE220.out | refine below_set ?_ GE221.out) | exact HB.out)) hb); clear HO_8; clear HO_10; clear HO_12; clear BK195; clear BK220; clear BK221; clear HB; have HO_8 := n0_; have HO_10 := n1_; have HO_12 := n2_; have HO224 := n3_; have BK195 := n4_; have BK220 := n5_; have BK221 := n6_; have HB := n7_; clear n0_ n1_ n2_ n3_ n4_ n5_ n6_ n7_; (try clear hb); (try clear hb2); (try clear hk); (try clear hi); (try clear ho0)))
                                                      have n0_ := Aside0.mk (Kd.R_drew HO_8.out)
                                                      have n1_ := Aside0.mk (Kd.R_drew HO_10.out)
                                                      have n2_ := Aside0.mk (Kd.R_drew HO_12.out)
                                                      have n3_ := Aside0.mk (Kd.R_drew HO224.out)
                                                      have n4_ := Aside0.mk (blk_drew BK195.out)
                                                      have n5_ := Aside0.mk (blk_drew BK220.out)
                                                      have n6_ := Aside0.mk (blk_drew BK221.out)
                                                      have n7_ := Aside0.mk (below_drew1 HB.out)
                                                      clear HO_8
                                                      clear HO_10
                                                      clear HO_12
                                                      clear HO224
                                                      clear BK195
                                                      clear BK220
                                                      clear BK221
                                                      clear HB
                                                      have HO_8 := n0_
                                                      have HO_10 := n1_
                                                      have HO_12 := n2_
                                                      have HO224 := n3_
                                                      have BK195 := n4_
                                                      have BK220 := n5_
                                                      have BK221 := n6_
                                                      have HB := n7_
                                                      clear n0_ n1_ n2_ n3_ n4_ n5_ n6_ n7_
                                                      have p227 : 0 ≤ (t199 : Int) := of_decide_eq_true (by first | (with_reducible assumption) | assumption)
                                                      have q227 : t199 < (t210.length : Int) := of_decide_eq_true (by first | (with_reducible assumption) | assumption)
                                                      (try (obtain ⟨Az227, cz227, ez227⟩ := Kd.R_slice HO_12.out; subst ez227))
                                                      obtain ⟨ad227, e227, hx227_0, hx227_1⟩ := at_T80 (Kd.R_reads' HO_12.out).2.2 t199 p227 q227
                                                      cases e227
                                                      replace p227 := eq_true p227
                                                      replace q227 := eq_true q227
                                                      have p228 : 0 ≤ ((ji50) : Int) := of_decide_eq_true (by first | (with_reducible assumption) | assumption)
                                                      have q228 : (ji50) < (t210.length : Int) := of_decide_eq_true (by first | (with_reducible assumption) | assumption)
                                                      (try (obtain ⟨Az228, cz228, ez228⟩ := Kd.R_slice HO_12.out; subst ez228))
                                                      obtain ⟨ad228, e228, hx228_0, hx228_1⟩ := at_T80 (Kd.R_reads' HO_12.out).2.2 (ji50) p228 q228
                                                      obtain rfl : ad227 = ad228 := (by injection e228)
                                                      replace p228 := eq_true p228
                                                      replace q228 := eq_true q228
                                                      refine start_ (n := 50) (S := fun w' => w'.cell? ⟨gb220, 0, none⟩ = some (.string t215) ∧ w'.cell? ⟨gb220, 1, none⟩ = some (.string t216) ∧ w'.cell? ⟨gb221, 0, none⟩ = some (.string t217) ∧ w'.cell? ⟨gb221, 1, none⟩ = some (.string t218) ∧ w'.cell? (ad227.add ((t199).toNat * 2)) = some (.string ((rd_T80 t210 t199).f0)) ∧ w'.cell? ⟨(ad227.add ((t199).toNat * 2)).block, (ad227.add ((t199).toNat * 2)).off + 1, none⟩ = some (.string ((rd_T80 t210 t199).f1)) ∧ w'.cell? (ad227.add (((ji50)).toNat * 2)) = some (.string ((rd_T80 t210 (ji50)).f0)) ∧ w'.cell? ⟨(ad227.add (((ji50)).toNat * 2)).block, (ad227.add (((ji50)).toNat * 2)).off + 1, none⟩ = some (.string ((rd_T80 t210 (ji50)).f1))) (ds := []) #[false, false, false, false, false, false, false, false, false, false, false, false, false, false, false, false, false, false, false, false, false, false, false, false, false, false, false, false, false, false, false, false, false, false, false, false, false, false, false, false, false, false, false, false, false, false, false, false, false, false] (by kernel_rfl) rfl rfl ⟨(blk_cell BK220.out 0).trans rfl, (blk_cell BK220.out 1).trans rfl, (blk_cell BK221.out 0).trans rfl, (blk_cell BK221.out 1).trans rfl, hx227_0, hx227_1, hx228_0, hx228_1⟩ (fun hHeld => ?_); refine with_tabW catchmentlaw13_PivotSplits.tab14 catchmentlaw13_PivotSplits.bits14 (fun HT_ HW_ => ?_)
                                                      generalize w80.drew = w81 at HO_8 HO_10 HO_12 HO224 BK195 BK220 BK221 HB hx227_0 hx227_1 hx228_0 hx228_1 hHeld ⊢
                                                      refine one_ (i := 0) (N := some 93) #[true, false, false, false, false, false, false, false, false, false, false, false, false, false, false, false, false, false, false, false, false, false, false, false, false, false, false, false, false, false, false, false, false, false, false, false, false, false, false, false, false, false, false, false, false, false, false, false, false, false] rfl rfl (one_of HT_.out (by kernel_rfl)) (by decide) (fun K hK => ?_)
                                                      refine goes_ Try.func53 (by kernel_rfl) rfl #[] (by rfl) rfl rfl (by (try simp only [List.map_toArray, List.map_cons, List.map_nil]); first | done | rfl | (simp only [List.length_drop, List.length_take]; rfl)) ?_
                                                      with_reducible refine (catchmentlaw13_live.calls kj28  true _ A45.out).mono ?_
                                                      rintro e w82 ⟨rfl, hb⟩
                                                      have HS4_ := (hb.cell (World.block_lt_of_cell? _ _ (hHeld.2.2.2.2.1))).trans (hHeld.2.2.2.2.1)
                                                      have HS5_ := (hb.cell (World.block_lt_of_cell? _ _ (hHeld.2.2.2.2.2.1))).trans (hHeld.2.2.2.2.2.1)
                                                      have HS6_ := (hb.cell (World.block_lt_of_cell? _ _ (hHeld.2.2.2.2.2.2.1))).trans (hHeld.2.2.2.2.2.2.1)
                                                      have HS7_ := (hb.cell (World.block_lt_of_cell? _ _ (hHeld.2.2.2.2.2.2.2))).trans (hHeld.2.2.2.2.2.2.2)
                                                      refine ⟨_, rfl, ?_⟩
                                                      have n0_ := Aside0.mk (Kd.R_below (by (with_reducible repeat (first | apply Kd.R_alloc | apply Kd.R_drewN | apply Kd.R_drew)); exact HO_8.out) hb)
                                                      have n1_ := Aside0.mk (Kd.R_below (by (with_reducible repeat (first | apply Kd.R_alloc | apply Kd.R_drewN | apply Kd.R_drew)); exact HO_10.out) hb)
                                                      have n2_ := Aside0.mk (Kd.R_below (by (with_reducible repeat (first | apply Kd.R_alloc | apply Kd.R_drewN | apply Kd.R_drew)); exact HO_12.out) hb)
                                                      have n3_ := Aside0.mk (Kd.R_below (by (with_reducible repeat (first | apply Kd.R_alloc | apply Kd.R_drewN | apply Kd.R_drew)); exact HO224.out) hb)
                                                      have n4_ := Aside0.mk (blk_below (g := gb195) (o := .cells #[.string a1_0, .string a1_1] 80 (0, 0)) (by (with_reducible repeat (first | refine blk_drewN ?_ _ | refine blk_drew ?_ | refine blk_alloc ?_ _)); exact BK195.out) hb)
                                                      have n5_ := Aside0.mk (blk_below (g := gb220) (o := .cells #[.string t215, .string t216] 80 (0, 0)) (by (with_reducible repeat (first | refine blk_drewN ?_ _ | refine blk_drew ?_ | refine blk_alloc ?_ _)); exact BK220.out) hb)
                                                      have n6_ := Aside0.mk (blk_below (g := gb221) (o := .cells #[.string t217, .string t218] 80 (0, 0)) (by (with_reducible repeat (first | refine blk_drewN ?_ _ | refine blk_drew ?_ | refine blk_alloc ?_ _)); exact BK221.out) hb)
                                                      have n7_ := Aside0.mk (below_step (by repeat (first | (with_reducible first | exact HB.out | apply below_alloc | apply pw_below_drewN | apply below_drew1 | refine below_set ?_ GE195.out | refine below_set ?_ GE220.out | refine below_set ?_ GE221.out) | exact HB.out)) hb)
                                                      clear HO_8
                                                      clear HO_10
                                                      clear HO_12
                                                      clear HO224
                                                      clear BK195
                                                      clear BK220
                                                      clear BK221
                                                      clear HB
                                                      have HO_8 := n0_
                                                      have HO_10 := n1_
                                                      have HO_12 := n2_
                                                      have HO224 := n3_
                                                      have BK195 := n4_
                                                      have BK220 := n5_
                                                      have BK221 := n6_
                                                      have HB := n7_
                                                      clear n0_ n1_ n2_ n3_ n4_ n5_ n6_ n7_
                                                      (try clear hb)
                                                      (try clear hb2)
                                                      (try clear hk)
                                                      (try clear hi)
                                                      obtain ⟨Ao83, co83, eo83⟩ := Kd.R_slice HO_12.out
                                                      (first | subst eo83 | (injection eo83 with f1_ f2_ f3_; have f4_ := f1_.symm; have f5_ := f3_.symm; clear f1_ f2_ f3_; subst f4_; subst f5_))
                                                      have q84 : (t199 : Int) ≤ ((t210.length : Int) : Int) := of_decide_eq_true (by first | (with_reducible assumption) | assumption)
                                                      obtain ⟨i084, hi084, _, hsz84, _⟩ := info_parts info80
                                                      have hroom84 : t210.length ≤ co83 := (Kd.R_reads' HO_12.out).2.1
                                                      have hC84 : Kd.C k80 _ (some ad227) t210.length t210 := (Kd.R_reads' HO_12.out).2.2
                                                      have hcut84 := cut_to (P := Try.prog) 82 80 .i64 Try.underlying82 hi084 (some ad227) t210.length co83 t199 (of_decide_eq_true (by first | (with_reducible assumption) | assumption)) q84 hroom84
                                                      have hr84 := Kd.C_take (m := (t199 : Int).toNat) hC84 (by omega)
                                                      have hy84 : y229.length = (t199 : Int).toNat := (by rw [Ny229.out, List.length_take]; omega)
                                                      rw [← Ny229.out] at hr84
                                                      rw [← hy84] at hcut84
                                                      have HR232 := Aside0.mk hr84
                                                      have HC232 := Aside0.mk (show y229.length ≤ co83 from by omega)
                                                      clear hr84 hC84 hroom84 hi084 hsz84
                                                      have KY84 := Aside0.mk hy84
                                                      clear hy84
                                                      have KL84 := Aside0.mk (show (t199 : Int).toNat ≤ t210.length from by omega)
                                                      replace q84 := eq_true q84
                                                      have q85 : (t199 : Int) ≤ ((t206.length : Int) : Int) := of_decide_eq_true (by first | (with_reducible assumption) | assumption)
                                                      obtain ⟨i085, hi085, _, hsz85, _⟩ := info_parts info80
                                                      have hroom85 : t206.length ≤ co69 := (Kd.R_reads' HO_10.out).2.1
                                                      have hC85 : Kd.C k80 _ (some ad214) t206.length t206 := (Kd.R_reads' HO_10.out).2.2
                                                      have hcut85 := cut_to (P := Try.prog) 82 80 .i64 Try.underlying82 hi085 (some ad214) t206.length co69 t199 (of_decide_eq_true (by first | (with_reducible assumption) | assumption)) q85 hroom85
                                                      have hr85 := Kd.C_take (m := (t199 : Int).toNat) hC85 (by omega)
                                                      have hy85 : y233.length = (t199 : Int).toNat := (by rw [Ny233.out, List.length_take]; omega)
                                                      rw [← Ny233.out] at hr85
                                                      rw [← hy85] at hcut85
                                                      have HR236 := Aside0.mk hr85
                                                      have HC236 := Aside0.mk (show y233.length ≤ co69 from by omega)
                                                      clear hr85 hC85 hroom85 hi085 hsz85
                                                      have KY85 := Aside0.mk hy85
                                                      clear hy85
                                                      have KL85 := Aside0.mk (show (t199 : Int).toNat ≤ t206.length from by omega)
                                                      replace q85 := eq_true q85
                                                      refine hK.out _ _ ⟨(blk_cell BK220.out 0).trans rfl, (blk_cell BK220.out 1).trans rfl, (blk_cell BK221.out 0).trans rfl, (blk_cell BK221.out 1).trans rfl, HS4_, HS5_, HS6_, HS7_⟩ (fun hHeld => ?_)
                                                      clear hK K
                                                      refine norm_ (a' := ?_) ?_ ?_
                                                      rotate_left
                                                      · show Act.put _ (some 93) _ = _
                                                        simp only [Act.put, List.setIfInBounds_toArray, List.set_cons_zero, List.set_cons_succ, i64_w, i32_w]
                                                        rfl
                                                      refine pure_ (i := 1) (N := some 94) (v := ?_) (a' := ?_) #[true, true, false, false, false, false, false, false, false, false, false, false, false, false, false, false, false, false, false, false, false, false, false, false, false, false, false, false, false, false, false, false, false, false, false, false, false, false, false, false, false, false, false, false, false, false, false, false, false, false] rfl rfl (any_of HT_.out (by kernel_rfl)) (fun _ _ _ h => h) (Or.inl ⟨by rfl, ?_⟩) ?_ ?_
                                                      rotate_left
                                                      · intro w'
                                                        go_simp
                                                        with_reducible rfl
                                                      rotate_left
                                                      · simp only [Act.put, List.setIfInBounds_toArray, List.set_cons_zero, List.set_cons_succ, i64_w, i32_w]
                                                        rfl
                                                      refine pure_ (i := 2) (N := some 95) (v := ?_) (a' := ?_) #[true, true, true, false, false, false, false, false, false, false, false, false, false, false, false, false, false, false, false, false, false, false, false, false, false, false, false, false, false, false, false, false, false, false, false, false, false, false, false, false, false, false, false, false, false, false, false, false, false, false] rfl rfl (any_of HT_.out (by kernel_rfl)) (fun _ _ _ h => h) (Or.inl ⟨by rfl, ?_⟩) ?_ ?_
                                                      rotate_left
                                                      · intro w'
                                                        go_simp
                                                        with_reducible rfl
                                                      rotate_left
                                                      · simp only [Act.put, List.setIfInBounds_toArray, List.set_cons_zero, List.set_cons_succ, i64_w, i32_w]
                                                        rfl
                                                      refine pure_ (i := 3) (N := some 96) (v := ?_) (a' := ?_) #[true, true, true, true, false, false, false, false, false, false, false, false, false, false, false, false, false, false, false, false, false, false, false, false, false, false, false, false, false, false, false, false, false, false, false, false, false, false, false, false, false, false, false, false, false, false, false, false, false, false] rfl rfl (any_of HT_.out (by kernel_rfl)) (fun _ _ _ h => h) (Or.inl ⟨by rfl, ?_⟩) ?_ ?_
                                                      rotate_left
                                                      · intro w'
                                                        go_simp
                                                        with_reducible rfl
                                                      rotate_left
                                                      · simp only [Act.put, List.setIfInBounds_toArray, List.set_cons_zero, List.set_cons_succ, i64_w, i32_w]
                                                        rfl
                                                      refine pure_ (i := 4) (N := some 97) (v := ?_) (a' := ?_) #[true, true, true, true, true, false, false, false, false, false, false, false, false, false, false, false, false, false, false, false, false, false, false, false, false, false, false, false, false, false, false, false, false, false, false, false, false, false, false, false, false, false, false, false, false, false, false, false, false, false] rfl rfl (any_of HT_.out (by kernel_rfl)) (fun _ _ _ h => h) (Or.inl ⟨by rfl, ?_⟩) ?_ ?_
                                                      rotate_left
                                                      · intro w'
                                                        go_simp
                                                        with_reducible rfl
                                                      rotate_left
                                                      · simp only [Act.put, List.setIfInBounds_toArray, List.set_cons_zero, List.set_cons_succ, i64_w, i32_w]
                                                        rfl
                                                      refine pure_ (i := 5) (N := some 98) (v := ?_) (a' := ?_) #[true, true, true, true, true, true, false, false, false, false, false, false, false, false, false, false, false, false, false, false, false, false, false, false, false, false, false, false, false, false, false, false, false, false, false, false, false, false, false, false, false, false, false, false, false, false, false, false, false, false] rfl rfl (any_of HT_.out (by kernel_rfl)) (fun _ _ _ h => h) (Or.inl ⟨by rfl, ?_⟩) ?_ ?_
                                                      rotate_left
                                                      · intro w'
                                                        go_simp
                                                        with_reducible rfl
                                                      rotate_left
                                                      · simp only [Act.put, List.setIfInBounds_toArray, List.set_cons_zero, List.set_cons_succ, i64_w, i32_w]
                                                        rfl
                                                      refine pure_ (i := 6) (N := some 99) (v := ?_) (a' := ?_) #[true, true, true, true, true, true, true, false, false, false, false, false, false, false, false, false, false, false, false, false, false, false, false, false, false, false, false, false, false, false, false, false, false, false, false, false, false, false, false, false, false, false, false, false, false, false, false, false, false, false] rfl rfl (any_of HT_.out (by kernel_rfl)) (fun _ _ _ h => h) (Or.inl ⟨by rfl, ?_⟩) ?_ ?_
                                                      rotate_left
                                                      · intro w'
                                                        go_simp
                                                        with_reducible rfl
                                                      rotate_left
                                                      · simp only [Act.put, List.setIfInBounds_toArray, List.set_cons_zero, List.set_cons_succ, i64_w, i32_w]
                                                        rfl
                                                      refine pure_ (i := 7) (N := some 100) (v := ?_) (a' := ?_) #[true, true, true, true, true, true, true, true, false, false, false, false, false, false, false, false, false, false, false, false, false, false, false, false, false, false, false, false, false, false, false, false, false, false, false, false, false, false, false, false, false, false, false, false, false, false, false, false, false, false] rfl rfl (any_of HT_.out (by kernel_rfl)) (fun _ _ _ h => h) (Or.inl ⟨by rfl, ?_⟩) ?_ ?_
                                                      rotate_left
                                                      · intro w'
                                                        go_simp
                                                        with_reducible rfl
                                                      rotate_left
                                                      · simp only [Act.put, List.setIfInBounds_toArray, List.set_cons_zero, List.set_cons_succ, i64_w, i32_w]
                                                        rfl
                                                      refine take_ (i := 8) (N := some 101) (v := ?_) (a' := ?_) #[true, true, true, true, true, true, true, true, true, false, false, false, false, false, false, false, false, false, false, false, false, false, false, false, false, false, false, false, false, false, false, false, false, false, false, false, false, false, false, false, false, false, false, false, false, false, false, false, false, false] rfl rfl (take_ofW HT_.out HW_.out (by kernel_rfl)) (fun _ _ _ h => h) (Or.inl ⟨by rfl, ?_⟩) hHeld ?_ ?_
                                                      rotate_left
                                                      · rintro w' ⟨s0, s1, s2, s3, s4, s5, s6, s7⟩
                                                        go_simp
                                                        with_reducible rfl
                                                      rotate_left
                                                      · simp only [Act.put, List.setIfInBounds_toArray, List.set_cons_zero, List.set_cons_succ, i64_w, i32_w]
                                                        rfl
                                                      refine take_ (i := 9) (N := some 102) (v := ?_) (a' := ?_) #[true, true, true, true, true, true, true, true, true, true, false, false, false, false, false, false, false, false, false, false, false, false, false, false, false, false, false, false, false, false, false, false, false, false, false, false, false, false, false, false, false, false, false, false, false, false, false, false, false, false] rfl rfl (take_ofW HT_.out HW_.out (by kernel_rfl)) (fun _ _ _ h => h) (Or.inl ⟨by rfl, ?_⟩) hHeld ?_ ?_
                                                      rotate_left
                                                      · rintro w' ⟨s0, s1, s2, s3, s4, s5, s6, s7⟩
                                                        go_simp
                                                        with_reducible rfl
                                                      rotate_left
                                                      · simp only [Act.put, List.setIfInBounds_toArray, List.set_cons_zero, List.set_cons_succ, i64_w, i32_w]
                                                        rfl
                                                      refine pure_ (i := 10) (N := some 103) (v := ?_) (a' := ?_) #[true, true, true, true, true, true, true, true, true, true, true, false, false, false, false, false, false, false, false, false, false, false, false, false, false, false, false, false, false, false, false, false, false, false, false, false, false, false, false, false, false, false, false, false, false, false, false, false, false, false] rfl rfl (any_of HT_.out (by kernel_rfl)) (fun _ _ _ h => h) (Or.inl ⟨by rfl, ?_⟩) ?_ ?_
                                                      rotate_left
                                                      · intro w'
                                                        go_simp
                                                        with_reducible rfl
                                                      rotate_left
                                                      · simp only [Act.put, List.setIfInBounds_toArray, List.set_cons_zero, List.set_cons_succ, i64_w, i32_w]
                                                        rfl
                                                      refine pure_ (i := 11) (N := some 104) (v := ?_) (a' := ?_) #[true, true, true, true, true, true, true, true, true, true, true, true, false, false, false, false, false, false, false, false, false, false, false, false, false, false, false, false, false, false, false, false, false, false, false, false, false, false, false, false, false, false, false, false, false, false, false, false, false, false] rfl rfl (any_of HT_.out (by kernel_rfl)) (fun _ _ _ h => h) (Or.inl ⟨by rfl, ?_⟩) ?_ ?_
                                                      rotate_left
                                                      · intro w'
                                                        go_simp
                                                        with_reducible rfl
                                                      rotate_left
                                                      · simp only [Act.put, List.setIfInBounds_toArray, List.set_cons_zero, List.set_cons_succ, i64_w, i32_w]
                                                        rfl
                                                      refine pure_ (i := 12) (N := some 105) (v := ?_) (a' := ?_) #[true, true, true, true, true, true, true, true, true, true, true, true, true, false, false, false, false, false, false, false, false, false, false, false, false, false, false, false, false, false, false, false, false, false, false, false, false, false, false, false, false, false, false, false, false, false, false, false, false, false] rfl rfl (any_of HT_.out (by kernel_rfl)) (fun _ _ _ h => h) (Or.inl ⟨by rfl, ?_⟩) ?_ ?_
                                                      rotate_left
                                                      · intro w'
                                                        go_simp
                                                        with_reducible rfl
                                                      rotate_left
                                                      · simp only [Act.put, List.setIfInBounds_toArray, List.set_cons_zero, List.set_cons_succ, i64_w, i32_w]
                                                        rfl
                                                      refine pure_ (i := 13) (N := some 106) (v := ?_) (a' := ?_) #[true, true, true, true, true, true, true, true, true, true, true, true, true, true, false, false, false, false, false, false, false, false, false, false, false, false, false, false, false, false, false, false, false, false, false, false, false, false, false, false, false, false, false, false, false, false, false, false, false, false] rfl rfl (any_of HT_.out (by kernel_rfl)) (fun _ _ _ h => h) (Or.inl ⟨by rfl, ?_⟩) ?_ ?_
                                                      rotate_left
                                                      · intro w'
                                                        go_simp
                                                        with_reducible rfl
                                                      rotate_left
                                                      · simp only [Act.put, List.setIfInBounds_toArray, List.set_cons_zero, List.set_cons_succ, i64_w, i32_w]
                                                        rfl
                                                      refine pure_ (i := 14) (N := some 107) (v := ?_) (a' := ?_) #[true, true, true, true, true, true, true, true, true, true, true, true, true, true, true, false, false, false, false, false, false, false, false, false, false, false, false, false, false, false, false, false, false, false, false, false, false, false, false, false, false, false, false, false, false, false, false, false, false, false] rfl rfl (any_of HT_.out (by kernel_rfl)) (fun _ _ _ h => h) (Or.inl ⟨by rfl, ?_⟩) ?_ ?_
                                                      rotate_left
                                                      · intro w'
                                                        go_simp
                                                        with_reducible rfl
                                                      rotate_left
                                                      · simp only [Act.put, List.setIfInBounds_toArray, List.set_cons_zero, List.set_cons_succ, i64_w, i32_w]
                                                        rfl
                                                      refine pure_ (i := 15) (N := some 108) (v := ?_) (a' := ?_) #[true, true, true, true, true, true, true, true, true, true, true, true, true, true, true, true, false, false, false, false, false, false, false, false, false, false, false, false, false, false, false, false, false, false, false, false, false, false, false, false, false, false, false, false, false, false, false, false, false, false] rfl rfl (any_of HT_.out (by kernel_rfl)) (fun _ _ _ h => h) (Or.inl ⟨by rfl, ?_⟩) ?_ ?_
                                                      rotate_left
                                                      · intro w'
                                                        go_simp
                                                        with_reducible rfl
                                                      rotate_left
                                                      · simp only [Act.put, List.setIfInBounds_toArray, List.set_cons_zero, List.set_cons_succ, i64_w, i32_w]
                                                        rfl
                                                      refine pure_ (i := 16) (N := some 109) (v := ?_) (a' := ?_) #[true, true, true, true, true, true, true, true, true, true, true, true, true, true, true, true, true, false, false, false, false, false, false, false, false, false, false, false, false, false, false, false, false, false, false, false, false, false, false, false, false, false, false, false, false, false, false, false, false, false] rfl rfl (any_of HT_.out (by kernel_rfl)) (fun _ _ _ h => h) (Or.inl ⟨by rfl, ?_⟩) ?_ ?_
                                                      rotate_left
                                                      · intro w'
                                                        go_simp
                                                        with_reducible rfl
                                                      rotate_left
                                                      · simp only [Act.put, List.setIfInBounds_toArray, List.set_cons_zero, List.set_cons_succ, i64_w, i32_w]
                                                        rfl
                                                      refine take_ (i := 17) (N := some 110) (v := ?_) (a' := ?_) #[true, true, true, true, true, true, true, true, true, true, true, true, true, true, true, true, true, true, false, false, false, false, false, false, false, false, false, false, false, false, false, false, false, false, false, false, false, false, false, false, false, false, false, false, false, false, false, false, false, false] rfl rfl (take_ofW HT_.out HW_.out (by kernel_rfl)) (fun _ _ _ h => h) (Or.inl ⟨by rfl, ?_⟩) hHeld ?_ ?_
                                                      rotate_left
                                                      · rintro w' ⟨s0, s1, s2, s3, s4, s5, s6, s7⟩
                                                        go_simp
                                                        with_reducible rfl
                                                      rotate_left
                                                      · simp only [Act.put, List.setIfInBounds_toArray, List.set_cons_zero, List.set_cons_succ, i64_w, i32_w]
                                                        rfl
                                                      refine take_ (i := 18) (N := some 111) (v := ?_) (a' := ?_) #[true, true, true, true, true, true, true, true, true, true, true, true, true, true, true, true, true, true, true, false, false, false, false, false, false, false, false, false, false, false, false, false, false, false, false, false, false, false, false, false, false, false, false, false, false, false, false, false, false, false] rfl rfl (take_ofW HT_.out HW_.out (by kernel_rfl)) (fun _ _ _ h => h) (Or.inl ⟨by rfl, ?_⟩) hHeld ?_ ?_
                                                      rotate_left
                                                      · rintro w' ⟨s0, s1, s2, s3, s4, s5, s6, s7⟩
                                                        go_simp
                                                        with_reducible rfl
                                                      rotate_left
                                                      · simp only [Act.put, List.setIfInBounds_toArray, List.set_cons_zero, List.set_cons_succ, i64_w, i32_w]
                                                        rfl
                                                      refine pure_ (i := 19) (N := some 112) (v := ?_) (a' := ?_) #[true, true, true, true, true, true, true, true, true, true, true, true, true, true, true, true, true, true, true, true, false, false, false, false, false, false, false, false, false, false, false, false, false, false, false, false, false, false, false, false, false, false, false, false, false, false, false, false, false, false] rfl rfl (any_of HT_.out (by kernel_rfl)) (fun _ _ _ h => h) (Or.inl ⟨by rfl, ?_⟩) ?_ ?_
                                                      rotate_left
                                                      · intro w'
                                                        go_simp
                                                        with_reducible rfl
                                                      rotate_left
                                                      · simp only [Act.put, List.setIfInBounds_toArray, List.set_cons_zero, List.set_cons_succ, i64_w, i32_w]
                                                        rfl
                                                      refine pure_ (i := 20) (N := some 113) (v := ?_) (a' := ?_) #[true, true, true, true, true, true, true, true, true, true, true, true, true, true, true, true, true, true, true, true, true, false, false, false, false, false, false, false, false, false, false, false, false, false, false, false, false, false, false, false, false, false, false, false, false, false, false, false, false, false] rfl rfl (any_of HT_.out (by kernel_rfl)) (fun _ _ _ h => h) (Or.inl ⟨by rfl, ?_⟩) ?_ ?_
                                                      rotate_left
                                                      · intro w'
                                                        go_simp
                                                        with_reducible rfl
                                                      rotate_left
                                                      · simp only [Act.put, List.setIfInBounds_toArray, List.set_cons_zero, List.set_cons_succ, i64_w, i32_w]
                                                        rfl
                                                      refine pure_ (i := 21) (N := some 114) (v := ?_) (a' := ?_) #[true, true, true, true, true, true, true, true, true, true, true, true, true, true, true, true, true, true, true, true, true, true, false, false, false, false, false, false, false, false, false, false, false, false, false, false, false, false, false, false, false, false, false, false, false, false, false, false, false, false] rfl rfl (any_of HT_.out (by kernel_rfl)) (fun _ _ _ h => h) (Or.inl ⟨by rfl, ?_⟩) ?_ ?_
                                                      rotate_left
                                                      · intro w'
                                                        go_simp
                                                        with_reducible rfl
                                                      rotate_left
                                                      · simp only [Act.put, List.setIfInBounds_toArray, List.set_cons_zero, List.set_cons_succ, i64_w, i32_w]
                                                        rfl
                                                      refine pure_ (i := 22) (N := some 115) (v := ?_) (a' := ?_) #[true, true, true, true, true, true, true, true, true, true, true, true, true, true, true, true, true, true, true, true, true, true, true, false, false, false, false, false, false, false, false, false, false, false, false, false, false, false, false, false, false, false, false, false, false, false, false, false, false, false] rfl rfl (any_of HT_.out (by kernel_rfl)) (fun _ _ _ h => h) (Or.inl ⟨by rfl, ?_⟩) ?_ ?_
                                                      rotate_left
                                                      · intro w'
                                                        go_simp
                                                        with_reducible rfl
                                                      rotate_left
                                                      · simp only [Act.put, List.setIfInBounds_toArray, List.set_cons_zero, List.set_cons_succ, i64_w, i32_w]
                                                        rfl
                                                      refine pure_ (i := 23) (N := some 116) (v := ?_) (a' := ?_) #[true, true, true, true, true, true, true, true, true, true, true, true, true, true, true, true, true, true, true, true, true, true, true, true, false, false, false, false, false, false, false, false, false, false, false, false, false, false, false, false, false, false, false, false, false, false, false, false, false, false] rfl rfl (any_of HT_.out (by kernel_rfl)) (fun _ _ _ h => h) (Or.inl ⟨by rfl, ?_⟩) ?_ ?_
                                                      rotate_left
                                                      · intro w'
                                                        go_simp
                                                        with_reducible rfl
                                                      rotate_left
                                                      · simp only [Act.put, List.setIfInBounds_toArray, List.set_cons_zero, List.set_cons_succ, i64_w, i32_w]
                                                        rfl
                                                      refine pure_ (i := 24) (N := some 117) (v := ?_) (a' := ?_) #[true, true, true, true, true, true, true, true, true, true, true, true, true, true, true, true, true, true, true, true, true, true, true, true, true, false, false, false, false, false, false, false, false, false, false, false, false, false, false, false, false, false, false, false, false, false, false, false, false, false] rfl rfl (any_of HT_.out (by kernel_rfl)) (fun _ _ _ h => h) (Or.inl ⟨by rfl, ?_⟩) ?_ ?_
                                                      rotate_left
                                                      · intro w'
                                                        go_simp
                                                        with_reducible rfl
                                                      rotate_left
                                                      · simp only [Act.put, List.setIfInBounds_toArray, List.set_cons_zero, List.set_cons_succ, i64_w, i32_w]
                                                        rfl
                                                      refine pure_ (i := 25) (N := some 118) (v := ?_) (a' := ?_) #[true, true, true, true, true, true, true, true, true, true, true, true, true, true, true, true, true, true, true, true, true, true, true, true, true, true, false, false, false, false, false, false, false, false, false, false, false, false, false, false, false, false, false, false, false, false, false, false, false, false] rfl rfl (any_of HT_.out (by kernel_rfl)) (fun _ _ _ h => h) (Or.inl ⟨by rfl, ?_⟩) ?_ ?_
                                                      rotate_left
                                                      · intro w'
                                                        go_simp
                                                        with_reducible rfl
                                                      rotate_left
                                                      · simp only [Act.put, List.setIfInBounds_toArray, List.set_cons_zero, List.set_cons_succ, i64_w, i32_w]
                                                        rfl
                                                      refine pure_ (i := 26) (N := some 119) (v := ?_) (a' := ?_) #[true, true, true, true, true, true, true, true, true, true, true, true, true, true, true, true, true, true, true, true, true, true, true, true, true, true, true, false, false, false, false, false, false, false, false, false, false, false, false, false, false, false, false, false, false, false, false, false, false, false] rfl rfl (any_of HT_.out (by kernel_rfl)) (fun _ _ _ h => h) (Or.inl ⟨by rfl, ?_⟩) ?_ ?_
                                                      rotate_left
                                                      · intro w'
                                                        go_simp
                                                        with_reducible rfl
                                                      rotate_left
                                                      · simp only [Act.put, List.setIfInBounds_toArray, List.set_cons_zero, List.set_cons_succ, i64_w, i32_w]
                                                        rfl
                                                      refine pure_ (i := 27) (N := some 120) (v := ?_) (a' := ?_) #[true, true, true, true, true, true, true, true, true, true, true, true, true, true, true, true, true, true, true, true, true, true, true, true, true, true, true, true, false, false, false, false, false, false, false, false, false, false, false, false, false, false, false, false, false, false, false, false, false, false] rfl rfl (any_of HT_.out (by kernel_rfl)) (fun _ _ _ h => h) (Or.inl ⟨by rfl, ?_⟩) ?_ ?_
                                                      rotate_left
                                                      · intro w'
                                                        go_simp
                                                        with_reducible rfl
                                                      rotate_left
                                                      · simp only [Act.put, List.setIfInBounds_toArray, List.set_cons_zero, List.set_cons_succ, i64_w, i32_w]
                                                        rfl
                                                      refine one_ (i := 28) (N := some 121) #[true, true, true, true, true, true, true, true, true, true, true, true, true, true, true, true, true, true, true, true, true, true, true, true, true, true, true, true, true, false, false, false, false, false, false, false, false, false, false, false, false, false, false, false, false, false, false, false, false, false] rfl rfl (one_of HT_.out (by kernel_rfl)) (by decide) (fun K hK => ?_)
                                                      refine goes_ Try.func54 (by kernel_rfl) rfl #[.slice (some ad227) y229.length co83, .slice (some ad214) y233.length co69] (by rfl) rfl rfl (by (try simp only [List.map_toArray, List.map_cons, List.map_nil]); first | done | rfl | (simp only [List.length_drop, List.length_take]; rfl)) ?_
                                                      with_reducible refine (catchmentref02_Same.calls kj28 _ _ y229 _ _ y233 true _ ?side1 ?side2 ?side3 ?side4 A58.out).mono ?_
                                                      (case side1 => repeat (first | exact (by repeat (first | (with_reducible exact HR232.out) | (with_reducible refine Kd.C_alloc ?_ _) | (with_reducible refine Kd.C_drewN ?_ _) | (with_reducible refine Kd.C_drew ?_) | exact HR232.out)) | (with_reducible refine Kd.C_alloc ?_ _) | (with_reducible refine Kd.C_drewN ?_ _) | (with_reducible refine Kd.C_drew ?_)))
                                                      (case side2 => exact HC232.out)
                                                      (case side3 => repeat (first | exact (by repeat (first | (with_reducible exact HR236.out) | (with_reducible refine Kd.C_alloc ?_ _) | (with_reducible refine Kd.C_drewN ?_ _) | (with_reducible refine Kd.C_drew ?_) | exact HR236.out)) | (with_reducible refine Kd.C_alloc ?_ _) | (with_reducible refine Kd.C_drewN ?_ _) | (with_reducible refine Kd.C_drew ?_)))
                                                      (case side4 => exact HC236.out)
                                                      rintro e w' ⟨rfl, ⟨nd, rfl⟩⟩
                                                      refine ⟨_, rfl, ?_⟩
                                                      have q86 : ((ji60) : Int) ≤ ((t210.length : Int) : Int) := of_decide_eq_true (by first | (with_reducible assumption) | assumption)
                                                      obtain ⟨i086, hi086, _, hsz86, _⟩ := info_parts info80
                                                      have hroom86 : t210.length ≤ co83 := (Kd.R_reads' HO_12.out).2.1
                                                      have hC86 : Kd.C k80 _ (some ad227) t210.length t210 := (Kd.R_reads' HO_12.out).2.2
                                                      have q086 : (0 : Int) ≤ ((ji60) : Int) := of_decide_eq_true (by first | (with_reducible assumption) | assumption)
                                                      have hcut86 := cut_from (P := Try.prog) 82 80 .i64 Try.underlying82 hi086 2 hsz86 (some ad227) t210.length co83 (ji60) q086 q86
                                                      have hr86 := Kd.C_drop (m := ((ji60) : Int).toNat) (c := co83) hC86 (by omega) hroom86
                                                      obtain ⟨A86, hA86⟩ : ∃ A1, A1 = (if co83 = ((ji60) : Int).toNat then (some ad227) else ((some ad227) : Option Addr).map (·.add (((ji60) : Int).toNat * 2))) := ⟨_, rfl⟩
                                                      obtain ⟨c86, hc86⟩ : ∃ c1, c1 = co83 - ((ji60) : Int).toNat := ⟨_, rfl⟩
                                                      have hy86 : y238.length = t210.length - ((ji60) : Int).toNat := (by rw [Ny238.out, List.length_drop] <;> omega)
                                                      rw [show (t210).drop ((ji60) : Int).toNat = y238 from Ny238.out.symm] at hr86
                                                      replace hr86 : Kd.C k80 _ A86 y238.length y238 := (by rw [hA86]; exact hr86)
                                                      rw [← hy86, ← hA86, ← hc86] at hcut86
                                                      have HR241 := Aside0.mk hr86
                                                      have HC241 := Aside0.mk (show y238.length ≤ c86 from by rw [hy86, hc86]; exact Nat.sub_le_sub_right hroom86 _)
                                                      clear hr86 hC86 hroom86 hi086 hsz86 hc86
                                                      have KY86 := Aside0.mk hy86
                                                      have KA86 := Aside0.mk hA86
                                                      clear hy86 hA86
                                                      have KL86 := Aside0.mk (show ((ji60) : Int).toNat ≤ t210.length from by omega)
                                                      replace q86 := eq_true q86
                                                      have q87 : ((ji50) : Int) ≤ ((t206.length : Int) : Int) := of_decide_eq_true (by first | (with_reducible assumption) | assumption)
                                                      obtain ⟨i087, hi087, _, hsz87, _⟩ := info_parts info80
                                                      have hroom87 : t206.length ≤ co69 := (Kd.R_reads' HO_10.out).2.1
                                                      have hC87 : Kd.C k80 _ (some ad214) t206.length t206 := (Kd.R_reads' HO_10.out).2.2
                                                      have q087 : (0 : Int) ≤ ((ji50) : Int) := of_decide_eq_true (by first | (with_reducible assumption) | assumption)
                                                      have hcut87 := cut_from (P := Try.prog) 82 80 .i64 Try.underlying82 hi087 2 hsz87 (some ad214) t206.length co69 (ji50) q087 q87
                                                      have hr87 := Kd.C_drop (m := ((ji50) : Int).toNat) (c := co69) hC87 (by omega) hroom87
                                                      obtain ⟨A87, hA87⟩ : ∃ A1, A1 = (if co69 = ((ji50) : Int).toNat then (some ad214) else ((some ad214) : Option Addr).map (·.add (((ji50) : Int).toNat * 2))) := ⟨_, rfl⟩
                                                      obtain ⟨c87, hc87⟩ : ∃ c1, c1 = co69 - ((ji50) : Int).toNat := ⟨_, rfl⟩
                                                      have hy87 : y242.length = t206.length - ((ji50) : Int).toNat := (by rw [Ny242.out, List.length_drop] <;> omega)
                                                      rw [show (t206).drop ((ji50) : Int).toNat = y242 from Ny242.out.symm] at hr87
                                                      replace hr87 : Kd.C k80 _ A87 y242.length y242 := (by rw [hA87]; exact hr87)
                                                      rw [← hy87, ← hA87, ← hc87] at hcut87
                                                      have HR245 := Aside0.mk hr87
                                                      have HC245 := Aside0.mk (show y242.length ≤ c87 from by rw [hy87, hc87]; exact Nat.sub_le_sub_right hroom87 _)
                                                      clear hr87 hC87 hroom87 hi087 hsz87 hc87
                                                      have KY87 := Aside0.mk hy87
                                                      have KA87 := Aside0.mk hA87
                                                      clear hy87 hA87
                                                      have KL87 := Aside0.mk (show ((ji50) : Int).toNat ≤ t206.length from by omega)
                                                      replace q87 := eq_true q87
                                                      refine hK.out _ _ ⟨(blk_cell BK220.out 0).trans rfl, (blk_cell BK220.out 1).trans rfl, (blk_cell BK221.out 0).trans rfl, (blk_cell BK221.out 1).trans rfl, hHeld.2.2.2.2.1, hHeld.2.2.2.2.2.1, hHeld.2.2.2.2.2.2.1, hHeld.2.2.2.2.2.2.2⟩ (fun hHeld => ?_)
                                                      clear hK K
                                                      refine norm_ (a' := ?_) ?_ ?_
                                                      rotate_left
                                                      · show Act.put _ (some 121) _ = _
                                                        simp only [Act.put, List.setIfInBounds_toArray, List.set_cons_zero, List.set_cons_succ, i64_w, i32_w]
                                                        rfl
                                                      refine pure_ (i := 29) (N := some 122) (v := ?_) (a' := ?_) #[true, true, true, true, true, true, true, true, true, true, true, true, true, true, true, true, true, true, true, true, true, true, true, true, true, true, true, true, true, true, false, false, false, false, false, false, false, false, false, false, false, false, false, false, false, false, false, false, false, false] rfl rfl (any_of HT_.out (by kernel_rfl)) (fun _ _ _ h => h) (Or.inl ⟨by rfl, ?_⟩) ?_ ?_
                                                      rotate_left
                                                      · intro w'
                                                        go_simp
                                                        with_reducible rfl
                                                      rotate_left
                                                      · simp only [Act.put, List.setIfInBounds_toArray, List.set_cons_zero, List.set_cons_succ, i64_w, i32_w]
                                                        rfl
                                                      refine pure_ (i := 30) (N := some 123) (v := ?_) (a' := ?_) #[true, true, true, true, true, true, true, true, true, true, true, true, true, true, true, true, true, true, true, true, true, true, true, true, true, true, true, true, true, true, true, false, false, false, false, false, false, false, false, false, false, false, false, false, false, false, false, false, false, false] rfl rfl (any_of HT_.out (by kernel_rfl)) (fun _ _ _ h => h) (Or.inl ⟨by rfl, ?_⟩) ?_ ?_
                                                      rotate_left
                                                      · intro w'
                                                        go_simp
                                                        with_reducible rfl
                                                      rotate_left
                                                      · simp only [Act.put, List.setIfInBounds_toArray, List.set_cons_zero, List.set_cons_succ, i64_w, i32_w]
                                                        rfl
                                                      refine pure_ (i := 31) (N := some 124) (v := ?_) (a' := ?_) #[true, true, true, true, true, true, true, true, true, true, true, true, true, true, true, true, true, true, true, true, true, true, true, true, true, true, true, true, true, true, true, true, false, false, false, false, false, false, false, false, false, false, false, false, false, false, false, false, false, false] rfl rfl (any_of HT_.out (by kernel_rfl)) (fun _ _ _ h => h) (Or.inl ⟨by rfl, ?_⟩) ?_ ?_
                                                      rotate_left
                                                      · intro w'
                                                        go_simp
                                                        with_reducible rfl
                                                      rotate_left
                                                      · simp only [Act.put, List.setIfInBounds_toArray, List.set_cons_zero, List.set_cons_succ, i64_w, i32_w]
                                                        rfl
                                                      refine pure_ (i := 32) (N := some 125) (v := ?_) (a' := ?_) #[true, true, true, true, true, true, true, true, true, true, true, true, true, true, true, true, true, true, true, true, true, true, true, true, true, true, true, true, true, true, true, true, true, false, false, false, false, false, false, false, false, false, false, false, false, false, false, false, false, false] rfl rfl (any_of HT_.out (by kernel_rfl)) (fun _ _ _ h => h) (Or.inl ⟨by rfl, ?_⟩) ?_ ?_
                                                      rotate_left
                                                      · intro w'
                                                        go_simp
                                                        with_reducible rfl
                                                      rotate_left
                                                      · simp only [Act.put, List.setIfInBounds_toArray, List.set_cons_zero, List.set_cons_succ, i64_w, i32_w]
                                                        rfl
                                                      refine pure_ (i := 33) (N := some 126) (v := ?_) (a' := ?_) #[true, true, true, true, true, true, true, true, true, true, true, true, true, true, true, true, true, true, true, true, true, true, true, true, true, true, true, true, true, true, true, true, true, true, false, false, false, false, false, false, false, false, false, false, false, false, false, false, false, false] rfl rfl (any_of HT_.out (by kernel_rfl)) (fun _ _ _ h => h) (Or.inl ⟨by rfl, ?_⟩) ?_ ?_
                                                      rotate_left
                                                      · intro w'
                                                        go_simp
                                                        with_reducible rfl
                                                      rotate_left
                                                      · simp only [Act.put, List.setIfInBounds_toArray, List.set_cons_zero, List.set_cons_succ, i64_w, i32_w]
                                                        rfl
                                                      refine pure_ (i := 34) (N := some 127) (v := ?_) (a' := ?_) #[true, true, true, true, true, true, true, true, true, true, true, true, true, true, true, true, true, true, true, true, true, true, true, true, true, true, true, true, true, true, true, true, true, true, true, false, false, false, false, false, false, false, false, false, false, false, false, false, false, false] rfl rfl (any_of HT_.out (by kernel_rfl)) (fun _ _ _ h => h) (Or.inl ⟨by rfl, ?_⟩) ?_ ?_
                                                      rotate_left
                                                      · intro w'
                                                        go_simp
                                                        with_reducible rfl
                                                      rotate_left
                                                      · simp only [Act.put, List.setIfInBounds_toArray, List.set_cons_zero, List.set_cons_succ, i64_w, i32_w]
                                                        rfl
                                                      refine pure_ (i := 35) (N := some 128) (v := ?_) (a' := ?_) #[true, true, true, true, true, true, true, true, true, true, true, true, true, true, true, true, true, true, true, true, true, true, true, true, true, true, true, true, true, true, true, true, true, true, true, true, false, false, false, false, false, false, false, false, false, false, false, false, false, false] rfl rfl (any_of HT_.out (by kernel_rfl)) (fun _ _ _ h => h) (Or.inl ⟨by rfl, ?_⟩) ?_ ?_
                                                      rotate_left
                                                      · intro w'
                                                        go_simp
                                                        with_reducible rfl
                                                      rotate_left
                                                      · simp only [Act.put, List.setIfInBounds_toArray, List.set_cons_zero, List.set_cons_succ, i64_w, i32_w]
                                                        rfl
                                                      refine pure_ (i := 36) (N := some 129) (v := ?_) (a' := ?_) #[true, true, true, true, true, true, true, true, true, true, true, true, true, true, true, true, true, true, true, true, true, true, true, true, true, true, true, true, true, true, true, true, true, true, true, true, true, false, false, false, false, false, false, false, false, false, false, false, false, false] rfl rfl (any_of HT_.out (by kernel_rfl)) (fun _ _ _ h => h) (Or.inl ⟨by rfl, ?_⟩) ?_ ?_
                                                      rotate_left
                                                      · intro w'
                                                        go_simp
                                                        with_reducible rfl
                                                      rotate_left
                                                      · simp only [Act.put, List.setIfInBounds_toArray, List.set_cons_zero, List.set_cons_succ, i64_w, i32_w]
                                                        rfl
                                                      refine pure_ (i := 37) (N := some 130) (v := ?_) (a' := ?_) #[true, true, true, true, true, true, true, true, true, true, true, true, true, true, true, true, true, true, true, true, true, true, true, true, true, true, true, true, true, true, true, true, true, true, true, true, true, true, false, false, false, false, false, false, false, false, false, false, false, false] rfl rfl (any_of HT_.out (by kernel_rfl)) (fun _ _ _ h => h) (Or.inl ⟨by rfl, ?_⟩) ?_ ?_
                                                      rotate_left
                                                      · intro w'
                                                        go_simp
                                                        with_reducible rfl
                                                      rotate_left
                                                      · simp only [Act.put, List.setIfInBounds_toArray, List.set_cons_zero, List.set_cons_succ, i64_w, i32_w]
                                                        rfl
                                                      refine pure_ (i := 38) (N := some 131) (v := ?_) (a' := ?_) #[true, true, true, true, true, true, true, true, true, true, true, true, true, true, true, true, true, true, true, true, true, true, true, true, true, true, true, true, true, true, true, true, true, true, true, true, true, true, true, false, false, false, false, false, false, false, false, false, false, false] rfl rfl (any_of HT_.out (by kernel_rfl)) (fun _ _ _ h => h) (Or.inl ⟨by rfl, ?_⟩) ?_ ?_
                                                      rotate_left
                                                      · intro w'
                                                        go_simp
                                                        with_reducible rfl
                                                      rotate_left
                                                      · simp only [Act.put, List.setIfInBounds_toArray, List.set_cons_zero, List.set_cons_succ, i64_w, i32_w]
                                                        rfl
                                                      refine one_ (i := 39) (N := some 132) #[true, true, true, true, true, true, true, true, true, true, true, true, true, true, true, true, true, true, true, true, true, true, true, true, true, true, true, true, true, true, true, true, true, true, true, true, true, true, true, true, false, false, false, false, false, false, false, false, false, false] rfl rfl (one_of HT_.out (by kernel_rfl)) (by decide) (fun K hK => ?_)
                                                      refine goes_ Try.func54 (by kernel_rfl) rfl #[.slice A86 y238.length c86, .slice A87 y242.length c87] (by rfl) rfl rfl (by (try simp only [List.map_toArray, List.map_cons, List.map_nil]); first | done | rfl | (simp only [List.length_drop, List.length_take]; rfl)) ?_
                                                      with_reducible refine (catchmentref02_Same.calls kj28 _ _ y238 _ _ y242 true _ ?side1 ?side2 ?side3 ?side4 A65.out).mono ?_
                                                      (case side1 => repeat (first | exact (by repeat (first | (with_reducible exact HR241.out) | (with_reducible refine Kd.C_alloc ?_ _) | (with_reducible refine Kd.C_drewN ?_ _) | (with_reducible refine Kd.C_drew ?_) | exact HR241.out)) | (with_reducible refine Kd.C_alloc ?_ _) | (with_reducible refine Kd.C_drewN ?_ _) | (with_reducible refine Kd.C_drew ?_)))
                                                      (case side2 => exact HC241.out)
                                                      (case side3 => repeat (first | exact (by repeat (first | (with_reducible exact HR245.out) | (with_reducible refine Kd.C_alloc ?_ _) | (with_reducible refine Kd.C_drewN ?_ _) | (with_reducible refine Kd.C_drew ?_) | exact HR245.out)) | (with_reducible refine Kd.C_alloc ?_ _) | (with_reducible refine Kd.C_drewN ?_ _) | (with_reducible refine Kd.C_drew ?_)))
                                                      (case side4 => exact HC245.out)
                                                      rintro e w' ⟨rfl, ⟨nd, rfl⟩⟩
                                                      refine ⟨_, rfl, ?_⟩
                                                      obtain ⟨Ao88, co88, eo88⟩ := Kd.R_slice HO224.out
                                                      (first | subst eo88 | (injection eo88 with f1_ f2_ f3_; have f4_ := f1_.symm; have f5_ := f3_.symm; clear f1_ f2_ f3_; subst f4_; subst f5_))
                                                      refine hK.out _ _ ⟨(blk_cell BK220.out 0).trans rfl, (blk_cell BK220.out 1).trans rfl, (blk_cell BK221.out 0).trans rfl, (blk_cell BK221.out 1).trans rfl, hHeld.2.2.2.2.1, hHeld.2.2.2.2.2.1, hHeld.2.2.2.2.2.2.1, hHeld.2.2.2.2.2.2.2⟩ (fun hHeld => ?_)
                                                      clear hK K
                                                      refine norm_ (a' := ?_) ?_ ?_
                                                      rotate_left
                                                      · show Act.put _ (some 132) _ = _
                                                        simp only [Act.put, List.setIfInBounds_toArray, List.set_cons_zero, List.set_cons_succ, i64_w, i32_w]
                                                        rfl
                                                      refine pure_ (i := 40) (N := some 133) (v := ?_) (a' := ?_) #[true, true, true, true, true, true, true, true, true, true, true, true, true, true, true, true, true, true, true, true, true, true, true, true, true, true, true, true, true, true, true, true, true, true, true, true, true, true, true, true, true, false, false, false, false, false, false, false, false, false] rfl rfl (any_of HT_.out (by kernel_rfl)) (fun _ _ _ h => h) (Or.inl ⟨by rfl, ?_⟩) ?_ ?_
                                                      rotate_left
                                                      · intro w'
                                                        go_simp
                                                        with_reducible rfl
                                                      rotate_left
                                                      · simp only [Act.put, List.setIfInBounds_toArray, List.set_cons_zero, List.set_cons_succ, i64_w, i32_w]
                                                        rfl
                                                      refine pure_ (i := 41) (N := some 134) (v := ?_) (a' := ?_) #[true, true, true, true, true, true, true, true, true, true, true, true, true, true, true, true, true, true, true, true, true, true, true, true, true, true, true, true, true, true, true, true, true, true, true, true, true, true, true, true, true, true, false, false, false, false, false, false, false, false] rfl rfl (any_of HT_.out (by kernel_rfl)) (fun _ _ _ h => h) (Or.inl ⟨by rfl, ?_⟩) ?_ ?_
                                                      rotate_left
                                                      · intro w'
                                                        go_simp
                                                        with_reducible rfl
                                                      rotate_left
                                                      · simp only [Act.put, List.setIfInBounds_toArray, List.set_cons_zero, List.set_cons_succ, i64_w, i32_w]
                                                        rfl
                                                      refine pure_ (i := 42) (N := some 135) (v := ?_) (a' := ?_) #[true, true, true, true, true, true, true, true, true, true, true, true, true, true, true, true, true, true, true, true, true, true, true, true, true, true, true, true, true, true, true, true, true, true, true, true, true, true, true, true, true, true, true, false, false, false, false, false, false, false] rfl rfl (any_of HT_.out (by kernel_rfl)) (fun _ _ _ h => h) (Or.inl ⟨by rfl, ?_⟩) ?_ ?_
                                                      rotate_left
                                                      · intro w'
                                                        go_simp
                                                        with_reducible rfl
                                                      rotate_left
                                                      · simp only [Act.put, List.setIfInBounds_toArray, List.set_cons_zero, List.set_cons_succ, i64_w, i32_w]
                                                        rfl
                                                      refine pure_ (i := 43) (N := some 136) (v := ?_) (a' := ?_) #[true, true, true, true, true, true, true, true, true, true, true, true, true, true, true, true, true, true, true, true, true, true, true, true, true, true, true, true, true, true, true, true, true, true, true, true, true, true, true, true, true, true, true, true, false, false, false, false, false, false] rfl rfl (any_of HT_.out (by kernel_rfl)) (fun _ _ _ h => h) (Or.inl ⟨by rfl, ?_⟩) ?_ ?_
                                                      rotate_left
                                                      · intro w'
                                                        go_simp
                                                        with_reducible rfl
                                                      rotate_left
                                                      · simp only [Act.put, List.setIfInBounds_toArray, List.set_cons_zero, List.set_cons_succ, i64_w, i32_w]
                                                        rfl
                                                      refine pure_ (i := 44) (N := some 137) (v := ?_) (a' := ?_) #[true, true, true, true, true, true, true, true, true, true, true, true, true, true, true, true, true, true, true, true, true, true, true, true, true, true, true, true, true, true, true, true, true, true, true, true, true, true, true, true, true, true, true, true, true, false, false, false, false, false] rfl rfl (any_of HT_.out (by kernel_rfl)) (fun _ _ _ h => h) (Or.inl ⟨by rfl, ?_⟩) ?_ ?_
                                                      rotate_left
                                                      · intro w'
                                                        go_simp
                                                        with_reducible rfl
                                                      rotate_left
                                                      · simp only [Act.put, List.setIfInBounds_toArray, List.set_cons_zero, List.set_cons_succ, i64_w, i32_w]
                                                        rfl
                                                      refine pure_ (i := 45) (N := some 138) (v := ?_) (a' := ?_) #[true, true, true, true, true, true, true, true, true, true, true, true, true, true, true, true, true, true, true, true, true, true, true, true, true, true, true, true, true, true, true, true, true, true, true, true, true, true, true, true, true, true, true, true, true, true, false, false, false, false] rfl rfl (any_of HT_.out (by kernel_rfl)) (fun _ _ _ h => h) (Or.inl ⟨by rfl, ?_⟩) ?_ ?_
                                                      rotate_left
                                                      · intro w'
                                                        go_simp
                                                        with_reducible rfl
                                                      rotate_left
                                                      · simp only [Act.put, List.setIfInBounds_toArray, List.set_cons_zero, List.set_cons_succ, i64_w, i32_w]
                                                        rfl
                                                      refine pure_ (i := 46) (N := some 139) (v := ?_) (a' := ?_) #[true, true, true, true, true, true, true, true, true, true, true, true, true, true, true, true, true, true, true, true, true, true, true, true, true, true, true, true, true, true, true, true, true, true, true, true, true, true, true, true, true, true, true, true, true, true, true, false, false, false] rfl rfl (any_of HT_.out (by kernel_rfl)) (fun _ _ _ h => h) (Or.inl ⟨by rfl, ?_⟩) ?_ ?_
                                                      rotate_left
                                                      · intro w'
                                                        go_simp
                                                        with_reducible rfl
                                                      rotate_left
                                                      · simp only [Act.put, List.setIfInBounds_toArray, List.set_cons_zero, List.set_cons_succ, i64_w, i32_w]
                                                        rfl
                                                      refine one_ (i := 47) (N := some 140) #[true, true, true, true, true, true, true, true, true, true, true, true, true, true, true, true, true, true, true, true, true, true, true, true, true, true, true, true, true, true, true, true, true, true, true, true, true, true, true, true, true, true, true, true, true, true, true, true, false, false] rfl rfl (one_of HT_.out (by kernel_rfl)) (by decide) (fun K hK => ?_)
                                                      refine goes_ Try.func28 (by kernel_rfl) rfl #[.slice Ao88 t222.length co88, .slice A0 t196_.length c0] (by rfl) rfl rfl (by (try simp only [List.map_toArray, List.map_cons, List.map_nil]); first | done | (rw [show t196_.length = ((t196_.length : Int)).toNat from (by rw [List.length_take]; have h_ : (((t196_.length : Int)) : Int) ≤ (l0.length : Int) := of_decide_eq_true (by first | (with_reducible assumption) | assumption); omega)] <;> rfl) | (simp only [hji4]; rfl) | rfl | (simp only [List.length_drop, List.length_take]; rfl)) ?_
                                                      with_reducible refine (catchmentref03_Same.calls kj28 _ _ t222 _ _ t196_ t247 _ ?side1 ?side2 ?side3 ?side4 A68.out).mono ?_
                                                      (case side1 => repeat (first | exact (Kd.R_reads' HO224.out).2.2 | (with_reducible refine Kd.C_alloc ?_ _) | (with_reducible refine Kd.C_drewN ?_ _) | (with_reducible refine Kd.C_drew ?_)))
                                                      (case side2 => exact (Kd.R_reads' HO224.out).2.1)
                                                      (case side3 => repeat (first | exact (Kd.C_below HR196.out (by repeat (first | (with_reducible first | exact HB.out | apply below_alloc | apply pw_below_drewN | apply below_drew1 | refine below_set ?_ GE195.out | refine below_set ?_ GE220.out | refine below_set ?_ GE221.out) | exact HB.out))) | (with_reducible refine Kd.C_alloc ?_ _) | (with_reducible refine Kd.C_drewN ?_ _) | (with_reducible refine Kd.C_drew ?_)))
                                                      (case side4 => exact HC196.out)
                                                      rintro e w' ⟨rfl, ⟨nd, rfl⟩⟩
                                                      refine ⟨_, rfl, ?_⟩
                                                      refine hK.out _ _ ⟨(blk_cell BK220.out 0).trans rfl, (blk_cell BK220.out 1).trans rfl, (blk_cell BK221.out 0).trans rfl, (blk_cell BK221.out 1).trans rfl, hHeld.2.2.2.2.1, hHeld.2.2.2.2.2.1, hHeld.2.2.2.2.2.2.1, hHeld.2.2.2.2.2.2.2⟩ (fun hHeld => ?_)
                                                      clear hK K
                                                      refine norm_ (a' := ?_) ?_ ?_
                                                      rotate_left
                                                      · show Act.put _ (some 140) _ = _
                                                        simp only [Act.put, List.setIfInBounds_toArray, List.set_cons_zero, List.set_cons_succ, i64_w, i32_w]
                                                        rfl
                                                      refine pure_ (i := 48) (N := some 141) (v := ?_) (a' := ?_) #[true, true, true, true, true, true, true, true, true, true, true, true, true, true, true, true, true, true, true, true, true, true, true, true, true, true, true, true, true, true, true, true, true, true, true, true, true, true, true, true, true, true, true, true, true, true, true, true, true, false] rfl rfl (any_of HT_.out (by kernel_rfl)) (fun _ _ _ h => h) (Or.inl ⟨by rfl, ?_⟩) ?_ ?_
                                                      rotate_left
                                                      · intro w'
                                                        go_simp
                                                        with_reducible rfl
                                                      rotate_left
                                                      · simp only [Act.put, List.setIfInBounds_toArray, List.set_cons_zero, List.set_cons_succ, i64_w, i32_w]
                                                        rfl
                                                      refine pure_ (i := 49) (N := some 6) (v := ?_) (a' := ?_) #[true, true, true, true, true, true, true, true, true, true, true, true, true, true, true, true, true, true, true, true, true, true, true, true, true, true, true, true, true, true, true, true, true, true, true, true, true, true, true, true, true, true, true, true, true, true, true, true, true, true] rfl rfl (any_of HT_.out (by kernel_rfl)) (fun _ _ _ h => h) (Or.inl ⟨by rfl, ?_⟩) ?_ ?_
                                                      rotate_left
                                                      · intro w'
                                                        go_simp
                                                        with_reducible rfl
                                                      rotate_left
                                                      · simp only [Act.put, List.setIfInBounds_toArray, List.set_cons_zero, List.set_cons_succ, i64_w, i32_w]
                                                        rfl
                                                      refine done_ (done_of HT_.out (by kernel_rfl)) ?_
                                                      try go_wp2
                                                      go_ret
                                                      exact ⟨by first | rfl | (simp [errW_none, errW_some] <;> rfl) | (simp only [← hji4, ← hji50, ← hji60]; first | rfl | (simp [errW_none, errW_some] <;> rfl)) | (simp [*, errW_none, errW_some] <;> rfl), by repeat (first | (with_reducible first | exact HB.out | apply below_alloc | apply pw_below_drewN | apply below_drew1 | refine below_set ?_ GE195.out | refine below_set ?_ GE220.out | refine below_set ?_ GE221.out) | exact HB.out)⟩
                                                    · replace c67 := Bool.eq_false_iff.mpr c67
                                                      subst c67
                                                      have H1 : (none) = some r := by rw [if_neg (show ¬ (false = true) by decide)] at H; exact H
                                                      clear H
                                                      have H := H1
                                                      clear H1
                                                      exact absurd H (by simp)
                                                  · replace c66 := Bool.eq_false_iff.mpr c66
                                                    subst c66
                                                    have H1 : (none) = some r := by rw [if_neg (show ¬ (false = true) by decide)] at H; exact H
                                                    clear H
                                                    have H := H1
                                                    clear H1
                                                    exact absurd H (by simp)
                                                · rw [if_neg c64] at H
                                                  exact absurd H (by simp)
                                              · rw [if_neg c62] at H
                                                exact absurd H (by simp)
                                            · rw [if_neg c61] at H
                                              exact absurd H (by simp)
                                          · replace c59 := Bool.eq_false_iff.mpr c59
                                            subst c59
                                            have H1 : (none) = some r := by rw [if_neg (show ¬ (false = true) by decide)] at H; exact H
                                            clear H
                                            have H := H1
                                            clear H1
                                            exact absurd H (by simp)
                                        · rw [if_neg c57] at H
                                          exact absurd H (by simp)
                                      · rw [if_neg c55] at H
                                        exact absurd H (by simp)
                                    · rw [if_neg c53] at H
                                      exact absurd H (by simp)
                                  · rw [if_neg c52] at H
                                    exact absurd H (by simp)
                                · rw [if_neg c51] at H
                                  exact absurd H (by simp)
                              · rw [if_neg c49] at H
                                exact absurd H (by simp)
                            · rw [if_neg c48] at H
                              exact absurd H (by simp)
                          · replace c47 := Bool.eq_false_iff.mpr c47
                            subst c47
                            have H1 : (none) = some r := by rw [if_neg (show ¬ (false = true) by decide)] at H; exact H
                            clear H
                            have H := H1
                            clear H1
                            exact absurd H (by simp)
                        · replace c46 := Bool.eq_false_iff.mpr c46
                          subst c46
                          have H1 : (none) = some r := by rw [if_neg (show ¬ (false = true) by decide)] at H; exact H
                          clear H
                          have H := H1
                          clear H1
                          exact absurd H (by simp)
                      · rw [if_neg c42] at H
                        exact absurd H (by simp)
                    · rw [if_neg c41] at H
                      exact absurd H (by simp)
      · replace c8 := Bool.eq_false_iff.mpr c8
        subst c8
        have H1 : ((catchmentlaw13_live.f k).bind fun t198 => (some t198)) = some r := by rw [if_neg (show ¬ (false = true) by decide)] at H; exact H
        clear H
        have H := H1
        clear H1
        replace H := Option.bind_eq_some_iff.mp H
        obtain ⟨t198, A890, H⟩ := H
        replace H : (some t198) = some r := H
        have A89 := Aside0.mk A890
        clear A890
        obtain rfl := Option.some.inj H
        go_enter Try.func14, Try.ntmps14
        go_wp2_with (first | (go_at_call 47; refine (HFEW.out _).mono ?_; rintro e w_ ⟨rfl, rfl⟩) | ((with_reducible refine gate_dst (N := 4) rfl ?_); (try (refine gate_guard (by rfl) ?_; dsimp only)); refine box_event ?hg (N := 4) ?hd (cs := #[.string a1_0, .string a1_1]) (t := 80) ?hr ?_; (case hd => rfl); (case hg => rfl); (case hr => first | (go_simp; done) | (go_simp; rfl)); intro gb195 hg w90 hbox hb; have n0_ := Aside0.mk (below_step (by repeat (first | (with_reducible first | exact HB.out | apply below_alloc | apply pw_below_drewN | apply below_drew1) | exact HB.out)) hb); have n1_ := Aside0.mk (hbox); have n2_ := Aside0.mk ((by rw [hg]; exact (below_size (by repeat (first | (with_reducible first | exact HB.out | apply below_alloc | apply pw_below_drewN | apply below_drew1) | exact HB.out))) : w.heap.size ≤ gb195)); have n3_ := Aside0.mk ((by rw [hg]; exact (below_size (by repeat (first | (with_reducible first | exact HB.out | apply below_alloc | apply pw_below_drewN | apply below_drew1) | exact HB.out))) : w.heap.size ≤ gb195)); clear HB; have HB := n0_; have BK195 := n1_; have GW195 := n2_; have GE195 := n3_; clear n0_ n1_ n2_ n3_; clear hb hbox hg; skip; have hcz92_0 : w90.cell? ⟨gb195, 0, none⟩ = some (.string a1_0) := (blk_cell BK195.out 0).trans rfl; have hcz92_1 : w90.cell? ⟨gb195, 1, none⟩ = some (.string a1_1) := (blk_cell BK195.out 1).trans rfl; have hfz92_0 := blk_frozen BK195.out 0; have hfz92_1 := blk_frozen BK195.out 1) | ((with_reducible refine gate_callee (f := 56) rfl ?_); refine goesL_ (some 23) rfl rfl Try.func56 (by kernel_rfl) rfl #[.slice A0 t196_.length c0, .agg #[.string a1_0, .string a1_1]] rfl (by (try simp only [List.map_toArray, List.map_cons, List.map_nil]); first | done | (rw [show t196_.length = ((t196_.length : Int)).toNat from (by rw [List.length_take]; have h_ : (((t196_.length : Int)) : Int) ≤ (l0.length : Int) := of_decide_eq_true (by first | (with_reducible assumption) | assumption); omega)] <;> rfl) | (simp only [hji4]; rfl) | rfl | (simp only [List.length_drop, List.length_take]; rfl)) ?_; (with_reducible refine (catchmentref13_Right.calls k _ _ t196_ a1_0 a1_1 false _ ?side1 ?side2 A7.out).mono ?_); (case side1 => repeat (first | exact (Kd.C_below HR196.out HB.out) | (with_reducible refine Kd.C_alloc ?_ _) | (with_reducible refine Kd.C_drewN ?_ _) | (with_reducible refine Kd.C_drew ?_))); (case side2 => exact HC196.out); rintro e w93 ⟨rfl, hb⟩; refine ⟨_, rfl, ?_⟩; have n0_ := Aside0.mk (blk_below (g := gb195) (o := .cells #[.string a1_0, .string a1_1] 80 (0, 0)) (by (with_reducible repeat (first | refine blk_drewN ?_ _ | refine blk_drew ?_ | refine blk_alloc ?_ _)); exact BK195.out) hb); have n1_ := Aside0.mk (below_step (by repeat (first | (with_reducible first | exact HB.out | apply below_alloc | apply pw_below_drewN | apply below_drew1 | refine below_set ?_ GE195.out) | exact HB.out)) hb); clear BK195; clear HB; have BK195 := n0_; have HB := n1_; clear n0_ n1_; (try clear hb); (try clear hb2); (try clear hk); (try clear hi)) | ((with_reducible refine gate_callee (f := 53) rfl ?_); refine goesL_ (some 25) rfl rfl Try.func53 (by kernel_rfl) rfl #[] rfl (by (try simp only [List.map_toArray, List.map_cons, List.map_nil]); first | done | rfl | (simp only [List.length_drop, List.length_take]; rfl)) ?_; (with_reducible refine (catchmentlaw13_live.calls k  t198 _ A89.out).mono ?_); rintro e w94 ⟨rfl, hb⟩; refine ⟨_, rfl, ?_⟩; have n0_ := Aside0.mk (blk_below (g := gb195) (o := .cells #[.string a1_0, .string a1_1] 80 (0, 0)) (by (with_reducible repeat (first | refine blk_drewN ?_ _ | refine blk_drew ?_ | refine blk_alloc ?_ _)); exact BK195.out) hb); have n1_ := Aside0.mk (below_step (by repeat (first | (with_reducible first | exact HB.out | apply below_alloc | apply pw_below_drewN | apply below_drew1 | refine below_set ?_ GE195.out) | exact HB.out)) hb); clear BK195; clear HB; have BK195 := n0_; have HB := n1_; clear n0_ n1_; (try clear hb); (try clear hb2); (try clear hk); (try clear hi)))
        go_ret
        exact ⟨by first | rfl | (simp [errW_none, errW_some] <;> rfl) | (simp only [← hji4]; first | rfl | (simp [errW_none, errW_some] <;> rfl)) | (simp [*, errW_none, errW_some] <;> rfl), by repeat (first | (with_reducible first | exact HB.out | apply below_alloc | apply pw_below_drewN | apply below_drew1 | refine below_set ?_ GE195.out) | exact HB.out)⟩
    · rw [if_neg c6] at H
      exact absurd H (by simp)
  · rw [if_neg c5] at H
    exact absurd H (by simp)
def ok80 (y : S80) : Prop := (fun s : ByteArray => s.size ≤ 140737488351232) y.f0 ∧ (fun s : ByteArray => s.size ≤ 140737488351232) y.f1
/-- THE ONE PURE STATEMENT of catchmentlaw13_PivotSplits. -/
def catchmentlaw13_PivotSplits.Pure : Prop := ∀ (l0 : List ByteArray) (y1 : S80) (a2 : ByteArray), (fun xs : List ByteArray => xs.length ≤ maxLen ∧ xs.length * 16 ≤ 140737488351232 ∧ ∀ x ∈ xs, (fun s : ByteArray => s.size ≤ 140737488351232) x) l0 → ok80 y1 → (fun s : ByteArray => s.size ≤ 140737488351232) a2 → ∃ k, catchmentlaw13_PivotSplits.f k l0 y1.f0 y1.f1 a2 = some true
theorem catchmentlaw13_PivotSplits.walk (P : catchmentlaw13_PivotSplits.Pure) (A0 : Option Addr) (c0 : Nat) (l0 : List ByteArray) (y1 : S80) (a2 : ByteArray) (w : World) (hr0 : Kd.C Kd.string w A0 l0.length l0) (hc0 : l0.length ≤ c0) (ok_0 : (fun xs : List ByteArray => xs.length ≤ maxLen ∧ xs.length * 16 ≤ 140737488351232 ∧ ∀ x ∈ xs, (fun s : ByteArray => s.size ≤ 140737488351232) x) l0) (ok_1 : ok80 y1) (ok_2 : (fun s : ByteArray => s.size ≤ 140737488351232) a2) :
    Calls Try.prog 14 #[.slice A0 l0.length c0, .agg #[.string y1.f0, .string y1.f1], .string a2] w fun e w' => e = .returned (.bool true) ∧ Below w.heap.size w w' := by
  obtain ⟨k, h⟩ := P l0 y1 a2 ok_0 ok_1 ok_2
  refine (catchmentlaw13_PivotSplits.calls k A0 c0 l0 y1.f0 y1.f1 a2 true w hr0 hc0 h).mono ?_
  rintro e w' ⟨rfl, hd⟩
  exact ⟨rfl, hd⟩

end Go.Proofs.Ytgbnhfppnglamaa.Q5
