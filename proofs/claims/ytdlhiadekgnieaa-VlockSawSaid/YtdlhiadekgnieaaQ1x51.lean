-- written by a program of this session (wip/myprint.py), over the kit's printer and the session's own contracts
import Derived.Test.YtdlhiadekgnieaaQ1x0
import Derived.Test.YtdlhiadekgnieaaQ1x20
import Derived.Test.YtdlhiadekgnieaaQ1x22
import Derived.Test.YtdlhiadekgnieaaQ1x27
import Derived.Test.YtdlhiadekgnieaaQ1x50
namespace Go.Proofs.Ytdlhiadekgnieaa.Q1
open Go.RowKit Go.Proofs.YtdlhiadekgnieaaW.PrintWords Go.Proofs.YtdlhiadekgnieaaW.PrintLast Go.Proofs.YtdlhiadekgnieaaW.PrintMore Go.Proofs.YtdlhiadekgnieaaW.Mine
attribute [local go_sem] max2_int min2_int max_two min_two max_three min_three max_four min_four max2_str min2_str binOp_gtr_str binOp_leq_str binOp_geq_str   -- for this text's walks alone
set_option linter.unusedVariables false
set_option linter.unusedSimpArgs false

/-! ### catchmentlaw07_VlockSaw: function 10 -/
mutual
def catchmentlaw07_VlockSaw.l0 : Nat → List (S57) → Int → Int → Int → Int → Bool → Option (Bool)
  | 0, _, _, _, _, _, _ => none
  | k + 1, x0, x6, x7, x349000, x349001, x349002 => if x7 < x6 then (if 0 ≤ x7 then (if x7 < (x0.length : Int) then ((catchmentlaw07_step.f k x349000 x349001 x349002 ((rd_T57 x0 x7).f0) ((rd_T57 x0 x7).f1)).bind fun bt350 => (catchmentlaw07_VlockSaw.l0 k x0 x6 (wrap64 (x7 + 1)) bt350.1 bt350.2.1 bt350.2.2.1)) else (none)) else (none)) else ((vlock_Begin.f x349000 x349001 x349002).bind fun bt354 => (if bt354.2 = 0 then (catchmentlaw07_VlockSaw.l1 k x0 bt354.1 false x6 x349000 x349001 x349002) else ((catchmentlaw07_live.f k).bind fun t356 => (if t356 = true then (if x349002 = true then (some true) else (some (x349001 != 0))) else (none)))))
def catchmentlaw07_VlockSaw.l1 : Nat → List (S57) → Int → Bool → Int → Int → Int → Bool → Option (Bool)
  | 0, _, _, _, _, _, _, _ => none
  | k + 1, x0, x8, x10, x11, x349000, x349001, x349002 => if x11 < (x0.length : Int) then (if 0 ≤ x11 then ((catchmentlaw07_step.f k x349000 x349001 x349002 ((rd_T57 x0 x11).f0) ((rd_T57 x0 x11).f1)).bind fun bt359 => (if x10 = true then (catchmentlaw07_VlockSaw.j2 k x0 x8 true x11 x349000 x349001 x349002 bt359.1 bt359.2.1 bt359.2.2.1) else (if bt359.2.2.2 = true then (catchmentlaw07_VlockSaw.j2 k x0 x8 (decide (((rd_T57 x0 x11).f0) ≥ 2)) x11 x349000 x349001 x349002 bt359.1 bt359.2.1 bt359.2.2.1) else (catchmentlaw07_VlockSaw.j2 k x0 x8 false x11 x349000 x349001 x349002 bt359.1 bt359.2.1 bt359.2.2.1)))) else (none)) else ((catchmentlaw07_live.f k).bind fun t357 => (some t357))
def catchmentlaw07_VlockSaw.j2 : Nat → List (S57) → Int → Bool → Int → Int → Int → Bool → Int → Int → Bool → Option (Bool)
  | 0, _, _, _, _, _, _, _, _, _, _ => none
  | k + 1, x0, x8, x10, x11, x349000, x349001, x349002, x364000, x364001, x364002 => if x364000 < x349000 then (catchmentlaw07_VlockSaw.j3 k x0 x8 x10 x11 true x364000 x364001 x364002) else (catchmentlaw07_VlockSaw.j3 k x0 x8 x10 x11 (x10 != (decide (x364000 > x8))) x364000 x364001 x364002)
def catchmentlaw07_VlockSaw.j3 : Nat → List (S57) → Int → Bool → Int → Bool → Int → Int → Bool → Option (Bool)
  | 0, _, _, _, _, _, _, _, _ => none
  | k + 1, x0, x8, x10, x11, x97, x364000, x364001, x364002 => if x97 = true then (none) else ((vlock_Valid.f x364000 x364001 x364002 x8).bind fun t365 => (if x10 = true then (if ((t365 == 0) != false) = true then (none) else (catchmentlaw07_VlockSaw.l1 k x0 x8 x10 (wrap64 (x11 + 1)) x364000 x364001 x364002)) else (if ((t365 == 0) != (x364001 == 0)) = true then (none) else (catchmentlaw07_VlockSaw.l1 k x0 x8 x10 (wrap64 (x11 + 1)) x364000 x364001 x364002))))
end
def catchmentlaw07_VlockSaw.f (k : Nat) (l0 : List (S57)) (a1 : Int) : Option (Bool) := if 0 ≤ (mn (l0.length : Int) 100) then (if (mn (l0.length : Int) 100) ≤ (l0.length : Int) then ((some (l0.take ((mn (l0.length : Int) 100) : Int).toNat : List (S57))).bind fun y344 => (if (wrap64 ((y344.length : Int) + 1)) = 0 then (none) else (catchmentlaw07_VlockSaw.l0 k y344 (Int.tmod (wrap64 (a1)) (wrap64 ((y344.length : Int) + 1))) 0 0 0 false))) else (none)) else (none)
theorem catchmentlaw07_VlockSaw.mono_l : ∀ k, (∀ y0 y1 y2 y3 y4 y5, LeO (catchmentlaw07_VlockSaw.l0 k y0 y1 y2 y3 y4 y5) (catchmentlaw07_VlockSaw.l0 (k + 1) y0 y1 y2 y3 y4 y5)) ∧ (∀ y0 y1 y2 y3 y4 y5 y6, LeO (catchmentlaw07_VlockSaw.l1 k y0 y1 y2 y3 y4 y5 y6) (catchmentlaw07_VlockSaw.l1 (k + 1) y0 y1 y2 y3 y4 y5 y6)) ∧ (∀ y0 y1 y2 y3 y4 y5 y6 y7 y8 y9, LeO (catchmentlaw07_VlockSaw.j2 k y0 y1 y2 y3 y4 y5 y6 y7 y8 y9) (catchmentlaw07_VlockSaw.j2 (k + 1) y0 y1 y2 y3 y4 y5 y6 y7 y8 y9)) ∧ (∀ y0 y1 y2 y3 y4 y5 y6 y7, LeO (catchmentlaw07_VlockSaw.j3 k y0 y1 y2 y3 y4 y5 y6 y7) (catchmentlaw07_VlockSaw.j3 (k + 1) y0 y1 y2 y3 y4 y5 y6 y7))
  | 0 => ⟨fun _ _ _ _ _ _ r h => by simp [catchmentlaw07_VlockSaw.l0] at h, fun _ _ _ _ _ _ _ r h => by simp [catchmentlaw07_VlockSaw.l1] at h, fun _ _ _ _ _ _ _ _ _ _ r h => by simp [catchmentlaw07_VlockSaw.j2] at h, fun _ _ _ _ _ _ _ _ r h => by simp [catchmentlaw07_VlockSaw.j3] at h⟩
  | k + 1 => by
    obtain ⟨ih0, ih1, ih2, ih3⟩ := catchmentlaw07_VlockSaw.mono_l k
    refine ⟨?_, ?_, ?_, ?_⟩
    · intro y0 y1 y2 y3 y4 y5
      unfold catchmentlaw07_VlockSaw.l0
      repeat' first
      | (with_reducible exact ih0 _ _ _ _ _ _)
      | (with_reducible exact ih1 _ _ _ _ _ _ _)
      | (with_reducible exact ih2 _ _ _ _ _ _ _ _ _ _)
      | (with_reducible exact ih3 _ _ _ _ _ _ _ _)
      | (with_reducible exact catchmentlaw07_live.mono _)
      | (with_reducible exact catchmentlaw07_step.mono _ _ _ _ _ _)
      | (with_reducible exact LeO.refl _)
      | (with_reducible exact LeO.none _)
      | (with_reducible refine LeO.ite ?_ ?_)
      | (with_reducible refine LeO.bind ?_ (fun _ => ?_))
      | exact ih0 _ _ _ _ _ _
      | exact ih1 _ _ _ _ _ _ _
      | exact ih2 _ _ _ _ _ _ _ _ _ _
      | exact ih3 _ _ _ _ _ _ _ _
      | exact catchmentlaw07_live.mono _
      | exact catchmentlaw07_step.mono _ _ _ _ _ _
      | exact LeO.none _
      | refine LeO.ite ?_ ?_
      | refine LeO.bind ?_ (fun _ => ?_)
    · intro y0 y1 y2 y3 y4 y5 y6
      unfold catchmentlaw07_VlockSaw.l1
      repeat' first
      | (with_reducible exact ih0 _ _ _ _ _ _)
      | (with_reducible exact ih1 _ _ _ _ _ _ _)
      | (with_reducible exact ih2 _ _ _ _ _ _ _ _ _ _)
      | (with_reducible exact ih3 _ _ _ _ _ _ _ _)
      | (with_reducible exact catchmentlaw07_live.mono _)
      | (with_reducible exact catchmentlaw07_step.mono _ _ _ _ _ _)
      | (with_reducible exact LeO.refl _)
      | (with_reducible exact LeO.none _)
      | (with_reducible refine LeO.ite ?_ ?_)
      | (with_reducible refine LeO.bind ?_ (fun _ => ?_))
      | exact ih0 _ _ _ _ _ _
      | exact ih1 _ _ _ _ _ _ _
      | exact ih2 _ _ _ _ _ _ _ _ _ _
      | exact ih3 _ _ _ _ _ _ _ _
      | exact catchmentlaw07_live.mono _
      | exact catchmentlaw07_step.mono _ _ _ _ _ _
      | exact LeO.none _
      | refine LeO.ite ?_ ?_
      | refine LeO.bind ?_ (fun _ => ?_)
    · intro y0 y1 y2 y3 y4 y5 y6 y7 y8 y9
      unfold catchmentlaw07_VlockSaw.j2
      repeat' first
      | (with_reducible exact ih0 _ _ _ _ _ _)
      | (with_reducible exact ih1 _ _ _ _ _ _ _)
      | (with_reducible exact ih2 _ _ _ _ _ _ _ _ _ _)
      | (with_reducible exact ih3 _ _ _ _ _ _ _ _)
      | (with_reducible exact catchmentlaw07_live.mono _)
      | (with_reducible exact catchmentlaw07_step.mono _ _ _ _ _ _)
      | (with_reducible exact LeO.refl _)
      | (with_reducible exact LeO.none _)
      | (with_reducible refine LeO.ite ?_ ?_)
      | (with_reducible refine LeO.bind ?_ (fun _ => ?_))
      | exact ih0 _ _ _ _ _ _
      | exact ih1 _ _ _ _ _ _ _
      | exact ih2 _ _ _ _ _ _ _ _ _ _
      | exact ih3 _ _ _ _ _ _ _ _
      | exact catchmentlaw07_live.mono _
      | exact catchmentlaw07_step.mono _ _ _ _ _ _
      | exact LeO.none _
      | refine LeO.ite ?_ ?_
      | refine LeO.bind ?_ (fun _ => ?_)
    · intro y0 y1 y2 y3 y4 y5 y6 y7
      unfold catchmentlaw07_VlockSaw.j3
      repeat' first
      | (with_reducible exact ih0 _ _ _ _ _ _)
      | (with_reducible exact ih1 _ _ _ _ _ _ _)
      | (with_reducible exact ih2 _ _ _ _ _ _ _ _ _ _)
      | (with_reducible exact ih3 _ _ _ _ _ _ _ _)
      | (with_reducible exact catchmentlaw07_live.mono _)
      | (with_reducible exact catchmentlaw07_step.mono _ _ _ _ _ _)
      | (with_reducible exact LeO.refl _)
      | (with_reducible exact LeO.none _)
      | (with_reducible refine LeO.ite ?_ ?_)
      | (with_reducible refine LeO.bind ?_ (fun _ => ?_))
      | exact ih0 _ _ _ _ _ _
      | exact ih1 _ _ _ _ _ _ _
      | exact ih2 _ _ _ _ _ _ _ _ _ _
      | exact ih3 _ _ _ _ _ _ _ _
      | exact catchmentlaw07_live.mono _
      | exact catchmentlaw07_step.mono _ _ _ _ _ _
      | exact LeO.none _
      | refine LeO.ite ?_ ?_
      | refine LeO.bind ?_ (fun _ => ?_)
theorem catchmentlaw07_VlockSaw.mono : ∀ a0 a1 k, LeO (catchmentlaw07_VlockSaw.f k a0 a1) (catchmentlaw07_VlockSaw.f (k + 1) a0 a1) := by
  intro a0 a1 k
  obtain ⟨ih0, ih1, ih2, ih3⟩ := catchmentlaw07_VlockSaw.mono_l k
  unfold catchmentlaw07_VlockSaw.f
  repeat' first
      | (with_reducible exact ih0 _ _ _ _ _ _)
      | (with_reducible exact ih1 _ _ _ _ _ _ _)
      | (with_reducible exact ih2 _ _ _ _ _ _ _ _ _ _)
      | (with_reducible exact ih3 _ _ _ _ _ _ _ _)
      | (with_reducible exact catchmentlaw07_live.mono _)
      | (with_reducible exact catchmentlaw07_step.mono _ _ _ _ _ _)
      | (with_reducible exact LeO.refl _)
      | (with_reducible exact LeO.none _)
      | (with_reducible refine LeO.ite ?_ ?_)
      | (with_reducible refine LeO.bind ?_ (fun _ => ?_))
      | exact ih0 _ _ _ _ _ _
      | exact ih1 _ _ _ _ _ _ _
      | exact ih2 _ _ _ _ _ _ _ _ _ _
      | exact ih3 _ _ _ _ _ _ _ _
      | exact catchmentlaw07_live.mono _
      | exact catchmentlaw07_step.mono _ _ _ _ _ _
      | exact LeO.none _
      | refine LeO.ite ?_ ?_
      | refine LeO.bind ?_ (fun _ => ?_)
def catchmentlaw07_VlockSaw.T7 : Bool × List (List Nat × List Nat) := (true, [([], []), ([], []), ([], []), ([1, 2], [1, 2]), ([3], [3]), ([0, 4], [0, 4]), ([5], [5]), ([6], [6]), ([6], [6]), ([7, 5, 0, 1, 2, 3, 4, 5, 6, 7], [7])])
def catchmentlaw07_VlockSaw.B7 : List Nat := [0, 0, 0, 6, 14, 31, 63, 127, 127, 255]
theorem catchmentlaw07_VlockSaw.tab7 : rtab .any (opsOf Try.f10 7) = catchmentlaw07_VlockSaw.T7 := by kernel_rfl
theorem catchmentlaw07_VlockSaw.bits7 : waitsOk catchmentlaw07_VlockSaw.T7.2 catchmentlaw07_VlockSaw.B7 = true := by kernel_rfl
def catchmentlaw07_VlockSaw.T15 : Bool × List (List Nat × List Nat) := (true, [([], []), ([], []), ([], []), ([1, 2], [1, 2]), ([3], [3]), ([0, 4], [0, 4]), ([5], [5]), ([6], [6]), ([6], [6]), ([], []), ([9, 7, 5, 0, 1, 2, 3, 4, 5, 6, 7, 9], [7, 9]), ([8, 10, 0, 1, 2, 3, 4, 5, 6, 7, 8, 9, 10], [8])])
def catchmentlaw07_VlockSaw.B15 : List Nat := [0, 0, 0, 6, 14, 31, 63, 127, 127, 0, 767, 2047]
theorem catchmentlaw07_VlockSaw.tab15 : rtab .any (opsOf Try.f10 15) = catchmentlaw07_VlockSaw.T15 := by kernel_rfl
theorem catchmentlaw07_VlockSaw.bits15 : waitsOk catchmentlaw07_VlockSaw.T15.2 catchmentlaw07_VlockSaw.B15 = true := by kernel_rfl
set_option maxHeartbeats 8000000 in
set_option maxRecDepth 100000 in
theorem catchmentlaw07_VlockSaw.calls (k : Nat) (A0 : Option Addr) (c0 : Nat) (l0 : List (S57)) (a1 : Int) (r : Bool) (w : World) (hr0 : Kd.C k57 w A0 l0.length l0) (hc0 : l0.length ≤ c0) (h : catchmentlaw07_VlockSaw.f k l0 a1 = some r) :
    Calls Try.prog 10 #[.slice A0 l0.length c0, .int .u8 a1] w fun e w' => e = .returned (.bool r) ∧ Below w.heap.size w w' := by
  have hu32 := Try.underlying32
  have hu57 := Try.underlying57
  have HR0 := Aside0.mk hr0
  have HC0 := Aside0.mk hc0
  clear hr0 hc0
  have HB := Aside0.mk (Below.refl w.heap.size w)
  have H : (if 0 ≤ (mn (l0.length : Int) 100) then (if (mn (l0.length : Int) 100) ≤ (l0.length : Int) then ((some (l0.take ((mn (l0.length : Int) 100) : Int).toNat : List (S57))).bind fun y344 => (if (wrap64 ((y344.length : Int) + 1)) = 0 then (none) else (catchmentlaw07_VlockSaw.l0 k y344 (Int.tmod (wrap64 (a1)) (wrap64 ((y344.length : Int) + 1))) 0 0 0 false))) else (none)) else (none)) = some r := h
  clear h
  obtain ⟨ji3, hji3⟩ : ∃ j_ : Int, (mn (l0.length : Int) 100) = j_ := ⟨_, rfl⟩
  replace H : (if 0 ≤ (ji3) then (if (ji3) ≤ (l0.length : Int) then ((some (l0.take ((ji3) : Int).toNat : List (S57))).bind fun y344 => (if (wrap64 ((y344.length : Int) + 1)) = 0 then (none) else (catchmentlaw07_VlockSaw.l0 k y344 (Int.tmod (wrap64 (a1)) (wrap64 ((y344.length : Int) + 1))) 0 0 0 false))) else (none)) else (none)) = some r := by first | (rw [hji3] at H; exact H) | (simp only [hji3] at H ⊢; exact H)
  (try (have hji3h : ji3 ≤ 100 := by (rw [← hji3]; unfold mn; (repeat' split) <;> omega)))
  (try (have hji3g : ji3 ≤ 64 := by omega))
  (try (have hji3l : 0 ≤ ji3 := by (rw [← hji3]; unfold mn; (repeat' split) <;> omega)))
  (try (have hji3m : 0 ≤ ji3 := by omega))
  have hji3_ : (if 100 < (l0.length : Int) then 100 else (l0.length : Int)) = ji3 := hji3
  (try (have hji3n : (if 100 < l0.length then (100 : Int) else (l0.length : Int)) = ji3 := by (rw [← hji3]; unfold mn; (repeat' split) <;> omega)))
  by_cases c4 : 0 ≤ (ji3)
  · rw [if_pos c4] at H
    have c4b0 := eq_true c4
    have c4b1 : decide (0 ≤ (ji3)) = true := decide_eq_true c4
    clear c4
    by_cases c5 : (ji3) ≤ (l0.length : Int)
    · rw [if_pos c5] at H
      have c5b0 := eq_true c5
      have c5b1 : decide ((ji3) ≤ (l0.length : Int)) = true := decide_eq_true c5
      clear c5
      obtain ⟨y344, hy344⟩ : ∃ y_ : List (S57), y_ = (l0.take ((ji3) : Int).toNat) := ⟨_, rfl⟩
      replace H : (if (wrap64 ((y344.length : Int) + 1)) = 0 then (none) else (catchmentlaw07_VlockSaw.l0 k y344 (Int.tmod (wrap64 (a1)) (wrap64 ((y344.length : Int) + 1))) 0 0 0 false)) = some r := by first | (rw [hy344]; with_reducible exact H) | (have H2_ := (Option.bind_some _ _).symm.trans H; rw [hy344]; with_reducible exact H2_) | (have H2_ := (Option.bind_some _ _).symm.trans H; with_reducible exact H2_) | with_reducible exact H | (rw [hy344]; exact H) | exact H
      have Ny344 := Aside0.mk hy344
      clear hy344
      by_cases c6 : (wrap64 ((y344.length : Int) + 1)) = 0
      · rw [if_pos c6] at H
        exact absurd H (by simp)
      · rw [if_neg c6] at H
        have c6b0 : ((wrap64 ((y344.length : Int) + 1)) == 0) = false := beq_eq_false_iff_ne.mpr c6
        have c6b1 : ((wrap64 ((y344.length : Int) + 1)) != 0) = true := bne_iff_ne.mpr c6
        have H' := Aside0.mk H
        clear H
        have q7 : ((ji3) : Int) ≤ ((l0.length : Int) : Int) := of_decide_eq_true (by first | (with_reducible assumption) | assumption)
        obtain ⟨i07, hi07, _, hsz7, _⟩ := info_parts info57
        have hroom7 : l0.length ≤ c0 := HC0.out
        have hC7 : Kd.C k57 _ A0 l0.length l0 := HR0.out
        have hcut7 := cut_to (P := Try.prog) 53 57 .i64 Try.underlying53 hi07 A0 l0.length c0 (ji3) (of_decide_eq_true (by first | (with_reducible assumption) | assumption)) q7 hroom7
        have hr7 := Kd.C_take (m := ((ji3) : Int).toNat) hC7 (by omega)
        have hy7 : y344.length = ((ji3) : Int).toNat := (by rw [Ny344.out, List.length_take]; omega)
        rw [← Ny344.out] at hr7
        rw [← hy7] at hcut7
        have HR347 := Aside0.mk hr7
        have HC347 := Aside0.mk (show y344.length ≤ c0 from by omega)
        clear hr7 hC7 hroom7 hi07 hsz7
        have KY7 := Aside0.mk hy7
        clear hy7
        replace q7 := eq_true q7
        go_enter Try.func10, Try.ntmps10
        go_wp2_with (first | ((with_reducible refine gate_dst (N := 5) rfl ?_); refine box_event ?hg (N := 5) ?hd (cs := #[.int .i64 0, .int .i64 0, .bool false]) (t := 32) ?hr ?_; (case hd => rfl); (case hg => rfl); (case hr => first | (go_simp; done) | (go_simp; rfl)); intro gb348 hg w8 hbox hb; have n0_ := Aside0.mk (below_step (by repeat (first | (with_reducible first | exact HB.out | apply below_alloc | apply pw_below_drewN | apply below_drew1) | exact HB.out)) hb); have n1_ := Aside0.mk (hbox); have n2_ := Aside0.mk ((by rw [hg]; exact (below_size (by repeat (first | (with_reducible first | exact HB.out | apply below_alloc | apply pw_below_drewN | apply below_drew1) | exact HB.out))) : w.heap.size ≤ gb348)); have n3_ := Aside0.mk ((by rw [hg]; exact (below_size (by repeat (first | (with_reducible first | exact HB.out | apply below_alloc | apply pw_below_drewN | apply below_drew1) | exact HB.out))) : w.heap.size ≤ gb348)); clear HB; have HB := n0_; have BK348 := n1_; have GW348 := n2_; have GE348 := n3_; clear n0_ n1_ n2_ n3_; clear hb hbox hg; have hcz9_0 : w8.cell? ⟨gb348, 0, none⟩ = some (.int .i64 0) := (blk_cell BK348.out 0).trans rfl; have hcz9_1 : w8.cell? ⟨gb348, 1, none⟩ = some (.int .i64 0) := (blk_cell BK348.out 1).trans rfl; have hcz9_2 : w8.cell? ⟨gb348, 2, none⟩ = some (.bool false) := (blk_cell BK348.out 2).trans rfl; have hfz9_0 := blk_frozen BK348.out 0; have hfz9_1 := blk_frozen BK348.out 1; have hfz9_2 := blk_frozen BK348.out 2))
        go_loopg [7] k (fun kq v7 w' => ∃ (x7_1 : Int) (x349000_1 : Int) (x349001_1 : Int) (x349002_1 : Bool), v7 = .int .i64 x7_1 ∧ Aside0 (catchmentlaw07_VlockSaw.l0 kq y344 (Int.tmod (wrap64 (a1)) (wrap64 ((y344.length : Int) + 1))) x7_1 x349000_1 x349001_1 x349002_1 = some r) ∧ Aside0 (kq ≤ k) ∧ Aside0 (w'.heap[gb348]? = some (.cells #[.int .i64 x349000_1, .int .i64 x349001_1, .bool x349002_1] 32 (0, 0))) ∧ Aside0 (Below w.heap.size w w'))
        case atStart => exact ⟨(0), (0), (0), (false), (by first | rfl | (simp; done) | (simp [*]; done)), H', ⟨Nat.le_refl _⟩, ⟨by (with_reducible repeat (first | refine blk_drewN ?_ _ | refine blk_drew ?_ | refine blk_alloc ?_ _)); refine blk_put (cs := #[.int .i64 0, .int .i64 0, .bool false]) ?_ 2 _ rfl; (with_reducible repeat (first | refine blk_drewN ?_ _ | refine blk_drew ?_ | refine blk_alloc ?_ _)); refine blk_put (cs := #[.int .i64 0, .int .i64 0, .bool false]) ?_ 1 _ rfl; (with_reducible repeat (first | refine blk_drewN ?_ _ | refine blk_drew ?_ | refine blk_alloc ?_ _)); refine blk_put (cs := #[.int .i64 0, .int .i64 0, .bool false]) ?_ 0 _ rfl; (with_reducible repeat (first | refine blk_drewN ?_ _ | refine blk_drew ?_ | refine blk_alloc ?_ _)); exact BK348.out⟩, ⟨by repeat (first | (with_reducible first | exact HB.out | apply below_alloc | apply pw_below_drewN | apply below_drew1 | refine below_set ?_ GE348.out) | exact HB.out)⟩⟩
        case round =>
          clear H'
          try clear c1
          try clear p2
          try clear c4
          try clear c4b0
          try clear c4b1
          try clear c5
          try clear c5b0
          try clear c5b1
          try clear c6
          try clear c6b0
          try clear c6b1
          try clear p6
          try clear q7
          try clear hcz9_0
          try clear hcz9_1
          try clear hcz9_2
          try clear hfz9_0
          try clear hfz9_1
          try clear hfz9_2
          try clear q7
          obtain ⟨x7_1, x349000_1, x349001_1, x349002_1, rfl, HA, HK1, BK348, HB⟩ := hrel
          cases gk with
          | zero => exact absurd HA.out (by simp [catchmentlaw07_VlockSaw.l0])
          | succ k1 =>
            have H := HA.out
            clear HA
            simp only [catchmentlaw07_VlockSaw.l0] at H
            by_cases c10 : x7_1 < (Int.tmod (wrap64 (a1)) (wrap64 ((y344.length : Int) + 1)))
            · rw [if_pos c10] at H
              have c10b0 : decide (x7_1 < (Int.tmod (wrap64 (a1)) (wrap64 ((y344.length : Int) + 1)))) = true := decide_eq_true c10
              clear c10
              by_cases c11 : 0 ≤ x7_1
              · rw [if_pos c11] at H
                have c11b0 : decide (0 ≤ x7_1) = true := decide_eq_true c11
                clear c11
                by_cases c12 : x7_1 < (y344.length : Int)
                · rw [if_pos c12] at H
                  have c12b0 : decide (x7_1 < (y344.length : Int)) = true := decide_eq_true c12
                  clear c12
                  replace H := Option.bind_eq_some_iff.mp H
                  obtain ⟨⟨t350, t351, t352, t353⟩, A130, H⟩ := H
                  replace H : (catchmentlaw07_VlockSaw.l0 k1 y344 (Int.tmod (wrap64 (a1)) (wrap64 ((y344.length : Int) + 1))) (wrap64 (x7_1 + 1)) t350 t351 t352) = some r := H
                  have A13 := Aside0.mk A130
                  clear A130
                  have H' := Aside0.mk H
                  clear H
                  try go_wp2
                  have n0_ := Aside0.mk (blk_drew BK348.out)
                  have n1_ := Aside0.mk (below_drew1 HB.out)
                  clear BK348
                  clear HB
                  have BK348 := n0_
                  have HB := n1_
                  clear n0_ n1_
                  have p349 : 0 ≤ (x7_1 : Int) := of_decide_eq_true (by first | (with_reducible assumption) | assumption)
                  have q349 : x7_1 < (y344.length : Int) := of_decide_eq_true (by first | (with_reducible assumption) | assumption)
                  obtain ⟨ad349, e349, hx349_0, hx349_1⟩ := at_T57 HR347.out x7_1 p349 q349
                  have hw349_1 := hx349_1
                  have hw349_0 := hx349_0
                  cases e349
                  replace hx349_0 := (HB.out.cell (World.block_lt_of_cell? w _ hx349_0)).trans hx349_0
                  replace hx349_1 := (HB.out.cell (World.block_lt_of_cell? w _ hx349_1)).trans hx349_1
                  replace p349 := eq_true p349
                  replace q349 := eq_true q349
                  refine start_ (n := 10) (S := fun w' => w'.cell? ⟨gb348, 0, none⟩ = some (.int .i64 x349000_1) ∧ w'.cell? ⟨gb348, 1, none⟩ = some (.int .i64 x349001_1) ∧ w'.cell? ⟨gb348, 2, none⟩ = some (.bool x349002_1) ∧ w'.cell? (ad349.add ((x7_1).toNat * 2)) = some (.int .i64 ((rd_T57 y344 x7_1).f0)) ∧ w'.cell? ⟨(ad349.add ((x7_1).toNat * 2)).block, (ad349.add ((x7_1).toNat * 2)).off + 1, none⟩ = some (.int .i64 ((rd_T57 y344 x7_1).f1))) (ds := [9]) #[false, false, false, false, false, false, false, false, false, false] (by kernel_rfl) rfl rfl ⟨(blk_cell BK348.out 0).trans rfl, (blk_cell BK348.out 1).trans rfl, (blk_cell BK348.out 2).trans rfl, ((HB.out.cell (World.block_lt_of_cell? w _ hw349_0)).trans hw349_0), ((HB.out.cell (World.block_lt_of_cell? w _ hw349_1)).trans hw349_1)⟩ (fun hHeld => ?_); refine with_tabW catchmentlaw07_VlockSaw.tab7 catchmentlaw07_VlockSaw.bits7 (fun HT_ HW_ => ?_)
                  generalize wr.drew = w14 at BK348 HB hx349_0 hx349_1 hHeld ⊢
                  refine pure_ (i := 1) (N := some 33) (v := ?_) (a' := ?_) #[false, true, false, false, false, false, false, false, false, false] rfl rfl (any_of HT_.out (by kernel_rfl)) (fun _ _ _ h => h) (Or.inl ⟨by rfl, ?_⟩) ?_ ?_
                  rotate_left
                  · intro w'
                    go_simp
                    with_reducible rfl
                  rotate_left
                  · simp only [Act.put, List.setIfInBounds_toArray, List.set_cons_zero, List.set_cons_succ, i64_w, i32_w]
                    rfl
                  refine pure_ (i := 2) (N := some 34) (v := ?_) (a' := ?_) #[false, true, true, false, false, false, false, false, false, false] rfl rfl (any_of HT_.out (by kernel_rfl)) (fun _ _ _ h => h) (Or.inl ⟨by rfl, ?_⟩) ?_ ?_
                  rotate_left
                  · intro w'
                    go_simp
                    with_reducible rfl
                  rotate_left
                  · simp only [Act.put, List.setIfInBounds_toArray, List.set_cons_zero, List.set_cons_succ, i64_w, i32_w]
                    rfl
                  refine pure_ (i := 3) (N := some 35) (v := ?_) (a' := ?_) #[false, true, true, true, false, false, false, false, false, false] rfl rfl (any_of HT_.out (by kernel_rfl)) (fun _ _ _ h => h) (Or.inl ⟨by rfl, ?_⟩) ?_ ?_
                  rotate_left
                  · intro w'
                    go_simp
                    with_reducible rfl
                  rotate_left
                  · simp only [Act.put, List.setIfInBounds_toArray, List.set_cons_zero, List.set_cons_succ, i64_w, i32_w]
                    rfl
                  refine take_ (i := 0) (N := some 32) (v := ?_) (a' := ?_) #[true, true, true, true, false, false, false, false, false, false] rfl rfl (take_ofW HT_.out HW_.out (by kernel_rfl)) (fun _ _ _ h => h) (Or.inl ⟨by rfl, ?_⟩) hHeld ?_ ?_
                  rotate_left
                  · rintro w' ⟨s0, s1, s2, s3, s4⟩
                    go_simp
                    with_reducible rfl
                  rotate_left
                  · simp only [Act.put, List.setIfInBounds_toArray, List.set_cons_zero, List.set_cons_succ, i64_w, i32_w]
                    rfl
                  refine take_ (i := 4) (N := some 36) (v := ?_) (a' := ?_) #[true, true, true, true, true, false, false, false, false, false] rfl rfl (take_ofW HT_.out HW_.out (by kernel_rfl)) (fun _ _ _ h => h) (Or.inl ⟨by rfl, ?_⟩) hHeld ?_ ?_
                  rotate_left
                  · rintro w' ⟨s0, s1, s2, s3, s4⟩
                    go_simp
                    with_reducible rfl
                  rotate_left
                  · simp only [Act.put, List.setIfInBounds_toArray, List.set_cons_zero, List.set_cons_succ, i64_w, i32_w]
                    rfl
                  refine one_ (i := 5) (N := some 37) #[true, true, true, true, true, true, false, false, false, false] rfl rfl (one_of HT_.out (by kernel_rfl)) (by decide) (fun K hK => ?_)
                  refine goes_ Try.func43 (by kernel_rfl) rfl #[.agg #[.int .i64 x349000_1, .int .i64 x349001_1, .bool x349002_1], .agg #[.int .i64 ((rd_T57 y344 x7_1).f0), .int .i64 ((rd_T57 y344 x7_1).f1)]] (by rfl) rfl rfl (by (try simp only [List.map_toArray, List.map_cons, List.map_nil]); first | done | rfl | (simp only [List.length_drop, List.length_take]; rfl)) ?_
                  with_reducible refine (catchmentlaw07_step.calls k1 x349000_1 x349001_1 x349002_1 ((rd_T57 y344 x7_1).f0) ((rd_T57 y344 x7_1).f1) t350 t351 t352 t353 _ A13.out).mono ?_
                  rintro e w15 ⟨rfl, hb⟩
                  refine ⟨_, rfl, ?_⟩
                  have n0_ := Aside0.mk (blk_below (g := gb348) (o := .cells #[.int .i64 x349000_1, .int .i64 x349001_1, .bool x349002_1] 32 (0, 0)) (by (with_reducible repeat (first | refine blk_drewN ?_ _ | refine blk_drew ?_ | refine blk_alloc ?_ _)); exact BK348.out) hb)
                  have n1_ := Aside0.mk (below_step (by repeat (first | (with_reducible first | exact HB.out | apply below_alloc | apply pw_below_drewN | apply below_drew1 | refine below_set ?_ GE348.out) | exact HB.out)) hb)
                  clear BK348
                  clear HB
                  have BK348 := n0_
                  have HB := n1_
                  clear n0_ n1_
                  (try clear hb)
                  (try clear hb2)
                  (try clear hk)
                  (try clear hi)
                  refine hK.out _ _ ⟨(blk_cell BK348.out 0).trans rfl, (blk_cell BK348.out 1).trans rfl, (blk_cell BK348.out 2).trans rfl, ((HB.out.cell (World.block_lt_of_cell? w _ hw349_0)).trans hw349_0), ((HB.out.cell (World.block_lt_of_cell? w _ hw349_1)).trans hw349_1)⟩ (fun hHeld => ?_)
                  clear hK K
                  refine norm_ (a' := ?_) ?_ ?_
                  rotate_left
                  · show Act.put _ (some 37) _ = _
                    simp only [Act.put, List.setIfInBounds_toArray, List.set_cons_zero, List.set_cons_succ, i64_w, i32_w]
                    rfl
                  refine pure_ (i := 6) (N := some 31) (v := ?_) (a' := ?_) #[true, true, true, true, true, true, true, false, false, false] rfl rfl (any_of HT_.out (by kernel_rfl)) (fun _ _ _ h => h) (Or.inl ⟨by rfl, ?_⟩) ?_ ?_
                  rotate_left
                  · intro w'
                    go_simp
                    with_reducible rfl
                  rotate_left
                  · simp only [Act.put, List.setIfInBounds_toArray, List.set_cons_zero, List.set_cons_succ, i64_w, i32_w]
                    rfl
                  refine pure_ (i := 7) (N := some 38) (v := ?_) (a' := ?_) #[true, true, true, true, true, true, true, true, false, false] rfl rfl (any_of HT_.out (by kernel_rfl)) (fun _ _ _ h => h) (Or.inl ⟨by rfl, ?_⟩) ?_ ?_
                  rotate_left
                  · intro w'
                    go_simp
                    with_reducible rfl
                  rotate_left
                  · simp only [Act.put, List.setIfInBounds_toArray, List.set_cons_zero, List.set_cons_succ, i64_w, i32_w]
                    rfl
                  refine pure_ (i := 8) (N := some 39) (v := ?_) (a' := ?_) #[true, true, true, true, true, true, true, true, true, false] rfl rfl (any_of HT_.out (by kernel_rfl)) (fun _ _ _ h => h) (Or.inl ⟨by rfl, ?_⟩) ?_ ?_
                  rotate_left
                  · intro w'
                    go_simp
                    with_reducible rfl
                  rotate_left
                  · simp only [Act.put, List.setIfInBounds_toArray, List.set_cons_zero, List.set_cons_succ, i64_w, i32_w]
                    rfl
                  refine last_ (i := 9) (N := none) #[true, true, true, true, true, true, true, true, true, true] rfl rfl (one_of HT_.out (by kernel_rfl)) (by decide) (fun K hK => ?_)
                  have hs16 : w15.cell? ⟨gb348, 0, none⟩ = some (.int .i64 x349000_1) := (blk_cell BK348.out 0).trans rfl
                  have hfs16 := blk_frozen BK348.out 0
                  have hs17 : w15.cell? ⟨gb348, 1, none⟩ = some (.int .i64 x349001_1) := (blk_cell BK348.out 1).trans rfl
                  have hfs17 := blk_frozen BK348.out 1
                  have hs18 : w15.cell? ⟨gb348, 2, none⟩ = some (.bool x349002_1) := (blk_cell BK348.out 2).trans rfl
                  have hfs18 := blk_frozen BK348.out 2
                  refine skip_ (w1 := ?_) (by rfl) rfl ?_ ?_
                  rotate_left
                  · go_simp
                    rfl
                  refine hK.out _ _ ?_
                  clear hK K
                  refine done_ (done_of HT_.out (by kernel_rfl)) ?_
                  try go_wp2
                  go_roundg k1
                  case measure => have := HK1.out; omega
                  case rel => exact ⟨(wrap64 (x7_1 + 1)), (t350), (t351), (t352), (by first | rfl | (simp; done) | (simp [*]; done)), H', ⟨by have := HK1.out; omega⟩, ⟨by (with_reducible repeat (first | refine blk_drewN ?_ _ | refine blk_drew ?_ | refine blk_alloc ?_ _)); refine blk_put (cs := #[.int .i64 t350, .int .i64 t351, .bool x349002_1]) ?_ 2 _ rfl; (with_reducible repeat (first | refine blk_drewN ?_ _ | refine blk_drew ?_ | refine blk_alloc ?_ _)); refine blk_put (cs := #[.int .i64 t350, .int .i64 x349001_1, .bool x349002_1]) ?_ 1 _ rfl; (with_reducible repeat (first | refine blk_drewN ?_ _ | refine blk_drew ?_ | refine blk_alloc ?_ _)); refine blk_put (cs := #[.int .i64 x349000_1, .int .i64 x349001_1, .bool x349002_1]) ?_ 0 _ rfl; (with_reducible repeat (first | refine blk_drewN ?_ _ | refine blk_drew ?_ | refine blk_alloc ?_ _)); exact BK348.out⟩, ⟨by repeat (first | (with_reducible first | exact HB.out | apply below_alloc | apply pw_below_drewN | apply below_drew1 | refine below_set ?_ GE348.out) | exact HB.out)⟩⟩
                · rw [if_neg c12] at H
                  exact absurd H (by simp)
              · rw [if_neg c11] at H
                exact absurd H (by simp)
            · rw [if_neg c10] at H
              have c10b0 : decide (x7_1 < (Int.tmod (wrap64 (a1)) (wrap64 ((y344.length : Int) + 1)))) = false := decide_eq_false c10
              clear c10
              replace H := Option.bind_eq_some_iff.mp H
              obtain ⟨⟨t354, t355⟩, A190, H⟩ := H
              replace H : (if t355 = 0 then (catchmentlaw07_VlockSaw.l1 k1 y344 t354 false (Int.tmod (wrap64 (a1)) (wrap64 ((y344.length : Int) + 1))) x349000_1 x349001_1 x349002_1) else ((catchmentlaw07_live.f k1).bind fun t356 => (if t356 = true then (if x349002_1 = true then (some true) else (some (x349001_1 != 0))) else (none)))) = some r := H
              have A19 := Aside0.mk A190
              clear A190
              by_cases c20 : t355 = 0
              · rw [if_pos c20] at H
                have c20b0 : (t355 == 0) = true := beq_iff_eq.mpr c20
                have c20b1 : (t355 != 0) = false := bne_eq_false_iff_eq.mpr c20
                clear c20
                have H' := Aside0.mk H
                clear H
                have hcz21_0 : wr.cell? ⟨gb348, 0, none⟩ = some (.int .i64 x349000_1) := (blk_cell BK348.out 0).trans rfl
                have hcz21_1 : wr.cell? ⟨gb348, 1, none⟩ = some (.int .i64 x349001_1) := (blk_cell BK348.out 1).trans rfl
                have hcz21_2 : wr.cell? ⟨gb348, 2, none⟩ = some (.bool x349002_1) := (blk_cell BK348.out 2).trans rfl
                have hfz21_0 := blk_frozen BK348.out 0
                have hfz21_1 := blk_frozen BK348.out 1
                have hfz21_2 := blk_frozen BK348.out 2
                go_wp2_with (first | ((with_reducible refine gate_callee (f := 21) rfl ?_); refine goesL_ (some 42) rfl rfl Try.func21 (by kernel_rfl) rfl #[.agg #[.int .i64 x349000_1, .int .i64 x349001_1, .bool x349002_1]] rfl (by (try simp only [List.map_toArray, List.map_cons, List.map_nil]); first | done | rfl | (simp only [List.length_drop, List.length_take]; rfl)) ?_; (with_reducible refine (vlock_Begin.calls x349000_1 x349001_1 x349002_1 t354 t355 _ A19.out).mono ?_); rintro e w22 ⟨rfl, hb⟩; refine ⟨_, rfl, ?_⟩; have n0_ := Aside0.mk (blk_below (g := gb348) (o := .cells #[.int .i64 x349000_1, .int .i64 x349001_1, .bool x349002_1] 32 (0, 0)) (by (with_reducible repeat (first | refine blk_drewN ?_ _ | refine blk_drew ?_ | refine blk_alloc ?_ _)); exact BK348.out) hb); have n1_ := Aside0.mk (below_step (by repeat (first | (with_reducible first | exact HB.out | apply below_alloc | apply pw_below_drewN | apply below_drew1 | refine below_set ?_ GE348.out) | exact HB.out)) hb); clear BK348; clear HB; have BK348 := n0_; have HB := n1_; clear n0_ n1_; (try clear hb); (try clear hb2); (try clear hk); (try clear hi)))
                go_loopg [10, 11] k1 (fun kq v10 v11 w' => ∃ (x10_2 : Bool) (x11_2 : Int) (x349000_2 : Int) (x349001_2 : Int) (x349002_2 : Bool), v10 = .bool x10_2 ∧ v11 = .int .i64 x11_2 ∧ Aside0 (catchmentlaw07_VlockSaw.l1 kq y344 t354 x10_2 x11_2 x349000_2 x349001_2 x349002_2 = some r) ∧ Aside0 (kq ≤ k1) ∧ Aside0 (w'.heap[gb348]? = some (.cells #[.int .i64 x349000_2, .int .i64 x349001_2, .bool x349002_2] 32 (0, 0))) ∧ Aside0 (Below w.heap.size w w'))
                case atStart => exact ⟨(false), ((Int.tmod (wrap64 (a1)) (wrap64 ((y344.length : Int) + 1)))), (x349000_1), (x349001_1), (x349002_1), (by first | rfl | (simp; done) | (simp [*]; done)), (by first | rfl | (simp; done) | (simp [*]; done)), H', ⟨Nat.le_refl _⟩, ⟨by (with_reducible repeat (first | refine blk_drewN ?_ _ | refine blk_drew ?_ | refine blk_alloc ?_ _)); exact BK348.out⟩, ⟨by repeat (first | (with_reducible first | exact HB.out | apply below_alloc | apply pw_below_drewN | apply below_drew1 | refine below_set ?_ GE348.out) | exact HB.out)⟩⟩
                case round =>
                  clear H'
                  try clear c1
                  try clear c2
                  try clear p2
                  try clear p3
                  try clear q3
                  try clear hx3
                  try clear c4
                  try clear c4b0
                  try clear c4b1
                  try clear c5
                  try clear c5b0
                  try clear c5b1
                  try clear c6
                  try clear c6b0
                  try clear c6b1
                  try clear p6
                  try clear q7
                  try clear c10
                  try clear c10b0
                  try clear c11
                  try clear c11b0
                  try clear c12
                  try clear c12b0
                  try clear c20
                  try clear c20b0
                  try clear c20b1
                  try clear c21
                  try clear hcz21_0
                  try clear hcz21_1
                  try clear hcz21_2
                  try clear hcz9_0
                  try clear hcz9_1
                  try clear hcz9_2
                  try clear hfz21_0
                  try clear hfz21_1
                  try clear hfz21_2
                  try clear hfz9_0
                  try clear hfz9_1
                  try clear hfz9_2
                  try clear hx349_0
                  try clear hx349_1
                  try clear p2
                  try clear p349
                  try clear p6
                  try clear q349
                  try clear q7
                  obtain ⟨x10_2, x11_2, x349000_2, x349001_2, x349002_2, rfl, rfl, HA, HK2, BK348, HB⟩ := hrel
                  cases gk with
                  | zero => exact absurd HA.out (by simp [catchmentlaw07_VlockSaw.l1])
                  | succ k2 =>
                    have H := HA.out
                    clear HA
                    simp only [catchmentlaw07_VlockSaw.l1] at H
                    by_cases c23 : x11_2 < (y344.length : Int)
                    · rw [if_pos c23] at H
                      have c23b0 : decide (x11_2 < (y344.length : Int)) = true := decide_eq_true c23
                      clear c23
                      by_cases c24 : 0 ≤ x11_2
                      · rw [if_pos c24] at H
                        have c24b0 : decide (0 ≤ x11_2) = true := decide_eq_true c24
                        clear c24
                        replace H := Option.bind_eq_some_iff.mp H
                        obtain ⟨⟨t359, t360, t361, t362⟩, A250, H⟩ := H
                        replace H : (if x10_2 = true then (catchmentlaw07_VlockSaw.j2 k2 y344 t354 true x11_2 x349000_2 x349001_2 x349002_2 t359 t360 t361) else (if t362 = true then (catchmentlaw07_VlockSaw.j2 k2 y344 t354 (decide (((rd_T57 y344 x11_2).f0) ≥ 2)) x11_2 x349000_2 x349001_2 x349002_2 t359 t360 t361) else (catchmentlaw07_VlockSaw.j2 k2 y344 t354 false x11_2 x349000_2 x349001_2 x349002_2 t359 t360 t361))) = some r := H
                        have A25 := Aside0.mk A250
                        clear A250
                        have HC26 := Aside0.mk H
                        clear H
                        try go_wp2
                        have n0_ := Aside0.mk (blk_drew BK348.out)
                        have n1_ := Aside0.mk (below_drew1 HB.out)
                        clear BK348
                        clear HB
                        have BK348 := n0_
                        have HB := n1_
                        clear n0_ n1_
                        have p358 : 0 ≤ (x11_2 : Int) := of_decide_eq_true (by first | (with_reducible assumption) | assumption)
                        have q358 : x11_2 < (y344.length : Int) := of_decide_eq_true (by first | (with_reducible assumption) | assumption)
                        obtain ⟨ad358, e358, hx358_0, hx358_1⟩ := at_T57 HR347.out x11_2 p358 q358
                        have hw358_1 := hx358_1
                        have hw358_0 := hx358_0
                        cases e358
                        replace hx358_0 := (HB.out.cell (World.block_lt_of_cell? w _ hx358_0)).trans hx358_0
                        replace hx358_1 := (HB.out.cell (World.block_lt_of_cell? w _ hx358_1)).trans hx358_1
                        replace p358 := eq_true p358
                        replace q358 := eq_true q358
                        refine start_ (n := 12) (S := fun w' => w'.cell? ⟨gb348, 0, none⟩ = some (.int .i64 x349000_2) ∧ w'.cell? ⟨gb348, 1, none⟩ = some (.int .i64 x349001_2) ∧ w'.cell? ⟨gb348, 2, none⟩ = some (.bool x349002_2) ∧ w'.cell? (ad358.add ((x11_2).toNat * 2)) = some (.int .i64 ((rd_T57 y344 x11_2).f0)) ∧ w'.cell? ⟨(ad358.add ((x11_2).toNat * 2)).block, (ad358.add ((x11_2).toNat * 2)).off + 1, none⟩ = some (.int .i64 ((rd_T57 y344 x11_2).f1))) (ds := []) #[false, false, false, false, false, false, false, false, false, false, false, false] (by kernel_rfl) rfl rfl ⟨(blk_cell BK348.out 0).trans rfl, (blk_cell BK348.out 1).trans rfl, (blk_cell BK348.out 2).trans rfl, ((HB.out.cell (World.block_lt_of_cell? w _ hw358_0)).trans hw358_0), ((HB.out.cell (World.block_lt_of_cell? w _ hw358_1)).trans hw358_1)⟩ (fun hHeld => ?_); refine with_tabW catchmentlaw07_VlockSaw.tab15 catchmentlaw07_VlockSaw.bits15 (fun HT_ HW_ => ?_)
                        generalize wr.drew = w27 at BK348 HB hx358_0 hx358_1 hHeld ⊢
                        refine pure_ (i := 1) (N := some 66) (v := ?_) (a' := ?_) #[false, true, false, false, false, false, false, false, false, false, false, false] rfl rfl (any_of HT_.out (by kernel_rfl)) (fun _ _ _ h => h) (Or.inl ⟨by rfl, ?_⟩) ?_ ?_
                        rotate_left
                        · intro w'
                          go_simp
                          with_reducible rfl
                        rotate_left
                        · simp only [Act.put, List.setIfInBounds_toArray, List.set_cons_zero, List.set_cons_succ, i64_w, i32_w]
                          rfl
                        refine pure_ (i := 2) (N := some 67) (v := ?_) (a' := ?_) #[false, true, true, false, false, false, false, false, false, false, false, false] rfl rfl (any_of HT_.out (by kernel_rfl)) (fun _ _ _ h => h) (Or.inl ⟨by rfl, ?_⟩) ?_ ?_
                        rotate_left
                        · intro w'
                          go_simp
                          with_reducible rfl
                        rotate_left
                        · simp only [Act.put, List.setIfInBounds_toArray, List.set_cons_zero, List.set_cons_succ, i64_w, i32_w]
                          rfl
                        refine pure_ (i := 3) (N := some 68) (v := ?_) (a' := ?_) #[false, true, true, true, false, false, false, false, false, false, false, false] rfl rfl (any_of HT_.out (by kernel_rfl)) (fun _ _ _ h => h) (Or.inl ⟨by rfl, ?_⟩) ?_ ?_
                        rotate_left
                        · intro w'
                          go_simp
                          with_reducible rfl
                        rotate_left
                        · simp only [Act.put, List.setIfInBounds_toArray, List.set_cons_zero, List.set_cons_succ, i64_w, i32_w]
                          rfl
                        refine take_ (i := 0) (N := some 65) (v := ?_) (a' := ?_) #[true, true, true, true, false, false, false, false, false, false, false, false] rfl rfl (take_ofW HT_.out HW_.out (by kernel_rfl)) (fun _ _ _ h => h) (Or.inl ⟨by rfl, ?_⟩) hHeld ?_ ?_
                        rotate_left
                        · rintro w' ⟨s0, s1, s2, s3, s4⟩
                          go_simp
                          with_reducible rfl
                        rotate_left
                        · simp only [Act.put, List.setIfInBounds_toArray, List.set_cons_zero, List.set_cons_succ, i64_w, i32_w]
                          rfl
                        refine take_ (i := 4) (N := some 69) (v := ?_) (a' := ?_) #[true, true, true, true, true, false, false, false, false, false, false, false] rfl rfl (take_ofW HT_.out HW_.out (by kernel_rfl)) (fun _ _ _ h => h) (Or.inl ⟨by rfl, ?_⟩) hHeld ?_ ?_
                        rotate_left
                        · rintro w' ⟨s0, s1, s2, s3, s4⟩
                          go_simp
                          with_reducible rfl
                        rotate_left
                        · simp only [Act.put, List.setIfInBounds_toArray, List.set_cons_zero, List.set_cons_succ, i64_w, i32_w]
                          rfl
                        refine join_ (σ := Nat) 2 #[true, true, true, true, true, true, true, true, true, true, false, false] (fun s_ => [(70, .tuple #[.agg #[.int .i64 t359, .int .i64 t360, .bool t361], .bool t362]), (12, .pointer (some ⟨s_, 0, none⟩)), (64, .tuple #[.agg #[.int .i64 t359, .int .i64 t360, .bool t361], .bool t362]), (71, .agg #[.int .i64 t359, .int .i64 t360, .bool t361]), (72, .bool t362)]) (fun s_ w' => (w'.cell? ⟨gb348, 0, none⟩ = some (.int .i64 x349000_2) ∧ w'.cell? ⟨gb348, 1, none⟩ = some (.int .i64 x349001_2) ∧ w'.cell? ⟨gb348, 2, none⟩ = some (.bool x349002_2) ∧ w'.cell? (ad358.add ((x11_2).toNat * 2)) = some (.int .i64 ((rd_T57 y344 x11_2).f0)) ∧ w'.cell? ⟨(ad358.add ((x11_2).toNat * 2)).block, (ad358.add ((x11_2).toNat * 2)).off + 1, none⟩ = some (.int .i64 ((rd_T57 y344 x11_2).f1))) ∧ (w'.heap[gb348]? = some (.cells #[.int .i64 x349000_2, .int .i64 x349001_2, .bool x349002_2] 32 (0, 0))) ∧ (w'.heap[s_]? = some (.cells #[.int .i64 0, .int .i64 0, .bool false] 32 (0, 0))) ∧ (w.heap.size ≤ s_) ∧ (w.heap.size ≤ s_) ∧ (gb348 ≠ s_) ∧ (s_ ≠ gb348) ∧ (Below w.heap.size w w')) ?_ ?_
                        rotate_left
                        · intro hCont
                          refine two_ (i := 5) (j := 9) (Ni := some 70) (Nj := some 12) #[true, true, true, true, true, true, false, false, false, false, false, false] #[true, true, true, true, true, false, false, false, false, true, false, false] rfl rfl rfl rfl (two_of HT_.out (by kernel_rfl)) (by decide) (by decide) (fun K hK => ?_) (fun K hK => ?_)
                          · skip
                            refine goes_ Try.func43 (by kernel_rfl) rfl #[.agg #[.int .i64 x349000_2, .int .i64 x349001_2, .bool x349002_2], .agg #[.int .i64 ((rd_T57 y344 x11_2).f0), .int .i64 ((rd_T57 y344 x11_2).f1)]] (by rfl) rfl rfl (by (try simp only [List.map_toArray, List.map_cons, List.map_nil]); first | done | rfl | (simp only [List.length_drop, List.length_take]; rfl)) ?_
                            with_reducible refine (catchmentlaw07_step.calls k2 x349000_2 x349001_2 x349002_2 ((rd_T57 y344 x11_2).f0) ((rd_T57 y344 x11_2).f1) t359 t360 t361 t362 _ A25.out).mono ?_
                            rintro e w28 ⟨rfl, hb⟩
                            refine ⟨_, rfl, ?_⟩
                            have n0_ := Aside0.mk (blk_below (g := gb348) (o := .cells #[.int .i64 x349000_2, .int .i64 x349001_2, .bool x349002_2] 32 (0, 0)) (by (with_reducible repeat (first | refine blk_drewN ?_ _ | refine blk_drew ?_ | refine blk_alloc ?_ _)); exact BK348.out) hb)
                            have n1_ := Aside0.mk (below_step (by repeat (first | (with_reducible first | exact HB.out | apply below_alloc | apply pw_below_drewN | apply below_drew1 | refine below_set ?_ GE348.out) | exact HB.out)) hb)
                            clear BK348
                            clear HB
                            have BK348 := n0_
                            have HB := n1_
                            clear n0_ n1_
                            (try clear hb)
                            (try clear hb2)
                            (try clear hk)
                            (try clear hi)
                            refine hK.out _ _ ⟨(blk_cell BK348.out 0).trans rfl, (blk_cell BK348.out 1).trans rfl, (blk_cell BK348.out 2).trans rfl, ((HB.out.cell (World.block_lt_of_cell? w _ hw358_0)).trans hw358_0), ((HB.out.cell (World.block_lt_of_cell? w _ hw358_1)).trans hw358_1)⟩ (fun hHeld => ?_)
                            clear hK K
                            refine norm_ (a' := ?_) ?_ ?_
                            rotate_left
                            · show Act.put _ (some 70) _ = _
                              simp only [Act.put, List.setIfInBounds_toArray, List.set_cons_zero, List.set_cons_succ, i64_w, i32_w]
                              rfl
                            refine pure_ (i := 6) (N := some 64) (v := ?_) (a' := ?_) #[true, true, true, true, true, true, true, false, false, false, false, false] rfl rfl (any_of HT_.out (by kernel_rfl)) (fun _ _ _ h => h) (Or.inl ⟨by rfl, ?_⟩) ?_ ?_
                            rotate_left
                            · intro w'
                              go_simp
                              with_reducible rfl
                            rotate_left
                            · simp only [Act.put, List.setIfInBounds_toArray, List.set_cons_zero, List.set_cons_succ, i64_w, i32_w]
                              rfl
                            refine pure_ (i := 7) (N := some 71) (v := ?_) (a' := ?_) #[true, true, true, true, true, true, true, true, false, false, false, false] rfl rfl (any_of HT_.out (by kernel_rfl)) (fun _ _ _ h => h) (Or.inl ⟨by rfl, ?_⟩) ?_ ?_
                            rotate_left
                            · intro w'
                              go_simp
                              with_reducible rfl
                            rotate_left
                            · simp only [Act.put, List.setIfInBounds_toArray, List.set_cons_zero, List.set_cons_succ, i64_w, i32_w]
                              rfl
                            refine pure_ (i := 8) (N := some 72) (v := ?_) (a' := ?_) #[true, true, true, true, true, true, true, true, true, false, false, false] rfl rfl (any_of HT_.out (by kernel_rfl)) (fun _ _ _ h => h) (Or.inl ⟨by rfl, ?_⟩) ?_ ?_
                            rotate_left
                            · intro w'
                              go_simp
                              with_reducible rfl
                            rotate_left
                            · simp only [Act.put, List.setIfInBounds_toArray, List.set_cons_zero, List.set_cons_succ, i64_w, i32_w]
                              rfl
                            refine one_ (i := 9) (N := some 12) #[true, true, true, true, true, true, true, true, true, true, false, false] rfl rfl (one_of HT_.out (by kernel_rfl)) (by decide) (fun K hK => ?_)
                            refine box_step ?hg (N := 12) ?hd (cs := #[.int .i64 0, .int .i64 0, .bool false]) (t := 32) ?hr ?_; (case hd => rfl); (case hg => rfl); (case hr => first | (go_simp; done) | (go_simp; rfl))
                            intro gb363 hg w29 hbox hb
                            have n0_ := Aside0.mk (blk_below (g := gb348) (o := .cells #[.int .i64 x349000_2, .int .i64 x349001_2, .bool x349002_2] 32 (0, 0)) (by (with_reducible repeat (first | refine blk_drewN ?_ _ | refine blk_drew ?_ | refine blk_alloc ?_ _)); exact BK348.out) hb)
                            have n1_ := Aside0.mk (below_step (by repeat (first | (with_reducible first | exact HB.out | apply below_alloc | apply pw_below_drewN | apply below_drew1 | refine below_set ?_ GE348.out) | exact HB.out)) hb)
                            have n2_ := Aside0.mk (hbox)
                            have n3_ := Aside0.mk ((by rw [hg]; exact (below_size (by repeat (first | (with_reducible first | exact HB.out | apply below_alloc | apply pw_below_drewN | apply below_drew1 | refine below_set ?_ GE348.out) | exact HB.out))) : w.heap.size ≤ gb363))
                            have n4_ := Aside0.mk ((by rw [hg]; exact (below_size (by repeat (first | (with_reducible first | exact HB.out | apply below_alloc | apply pw_below_drewN | apply below_drew1 | refine below_set ?_ GE348.out) | exact HB.out))) : w.heap.size ≤ gb363))
                            have n5_ := Aside0.mk ((by rw [hg]; exact Nat.ne_of_lt (blk_lt (g := gb348) (o := .cells #[.int .i64 x349000_2, .int .i64 x349001_2, .bool x349002_2] 32 (0, 0)) (by (with_reducible repeat (first | refine blk_drewN ?_ _ | refine blk_drew ?_ | refine blk_alloc ?_ _)); exact BK348.out)) : gb348 ≠ gb363))
                            have n6_ := Aside0.mk ((by rw [hg]; exact Nat.ne_of_gt (blk_lt (g := gb348) (o := .cells #[.int .i64 x349000_2, .int .i64 x349001_2, .bool x349002_2] 32 (0, 0)) (by (with_reducible repeat (first | refine blk_drewN ?_ _ | refine blk_drew ?_ | refine blk_alloc ?_ _)); exact BK348.out)) : gb363 ≠ gb348))
                            clear BK348
                            clear HB
                            have BK348 := n0_
                            have HB := n1_
                            have BK363 := n2_
                            have GW363 := n3_
                            have GE363 := n4_
                            have NB348_363 := n5_
                            have NB363_348 := n6_
                            clear n0_ n1_ n2_ n3_ n4_ n5_ n6_
                            clear hb hbox hg
                            refine hK.out _ _ ⟨(blk_cell BK348.out 0).trans rfl, (blk_cell BK348.out 1).trans rfl, (blk_cell BK348.out 2).trans rfl, ((HB.out.cell (World.block_lt_of_cell? w _ hw358_0)).trans hw358_0), ((HB.out.cell (World.block_lt_of_cell? w _ hw358_1)).trans hw358_1)⟩ (fun hHeld => ?_)
                            clear hK K
                            refine norm_ (a' := ?_) ?_ ?_
                            rotate_left
                            · show Act.put _ (some 12) _ = _
                              simp only [Act.put, List.setIfInBounds_toArray, List.set_cons_zero, List.set_cons_succ, i64_w, i32_w]
                              rfl
                            exact norm_ (by simp only [putAll, Act.put, List.setIfInBounds_toArray, List.set_cons_zero, List.set_cons_succ]) (hCont (gb363) _ ⟨hHeld, (by (with_reducible repeat (first | refine blk_drewN ?_ _ | refine blk_drew ?_ | refine blk_alloc ?_ _)); exact BK348.out), (by (with_reducible repeat (first | refine blk_drewN ?_ _ | refine blk_drew ?_ | refine blk_alloc ?_ _)); exact BK363.out), GW363.out, GE363.out, NB348_363.out, NB363_348.out, (by repeat (first | (with_reducible first | exact HB.out | apply below_alloc | apply pw_below_drewN | apply below_drew1 | refine below_set ?_ GE348.out | refine below_set ?_ GE363.out) | exact HB.out))⟩)
                          · skip
                            refine box_step ?hg (N := 12) ?hd (cs := #[.int .i64 0, .int .i64 0, .bool false]) (t := 32) ?hr ?_; (case hd => rfl); (case hg => rfl); (case hr => first | (go_simp; done) | (go_simp; rfl))
                            intro gb363 hg w28 hbox hb
                            have n0_ := Aside0.mk (blk_below (g := gb348) (o := .cells #[.int .i64 x349000_2, .int .i64 x349001_2, .bool x349002_2] 32 (0, 0)) (by (with_reducible repeat (first | refine blk_drewN ?_ _ | refine blk_drew ?_ | refine blk_alloc ?_ _)); exact BK348.out) hb)
                            have n1_ := Aside0.mk (below_step (by repeat (first | (with_reducible first | exact HB.out | apply below_alloc | apply pw_below_drewN | apply below_drew1 | refine below_set ?_ GE348.out) | exact HB.out)) hb)
                            have n2_ := Aside0.mk (hbox)
                            have n3_ := Aside0.mk ((by rw [hg]; exact (below_size (by repeat (first | (with_reducible first | exact HB.out | apply below_alloc | apply pw_below_drewN | apply below_drew1 | refine below_set ?_ GE348.out) | exact HB.out))) : w.heap.size ≤ gb363))
                            have n4_ := Aside0.mk ((by rw [hg]; exact (below_size (by repeat (first | (with_reducible first | exact HB.out | apply below_alloc | apply pw_below_drewN | apply below_drew1 | refine below_set ?_ GE348.out) | exact HB.out))) : w.heap.size ≤ gb363))
                            have n5_ := Aside0.mk ((by rw [hg]; exact Nat.ne_of_lt (blk_lt (g := gb348) (o := .cells #[.int .i64 x349000_2, .int .i64 x349001_2, .bool x349002_2] 32 (0, 0)) (by (with_reducible repeat (first | refine blk_drewN ?_ _ | refine blk_drew ?_ | refine blk_alloc ?_ _)); exact BK348.out)) : gb348 ≠ gb363))
                            have n6_ := Aside0.mk ((by rw [hg]; exact Nat.ne_of_gt (blk_lt (g := gb348) (o := .cells #[.int .i64 x349000_2, .int .i64 x349001_2, .bool x349002_2] 32 (0, 0)) (by (with_reducible repeat (first | refine blk_drewN ?_ _ | refine blk_drew ?_ | refine blk_alloc ?_ _)); exact BK348.out)) : gb363 ≠ gb348))
                            clear BK348
                            clear HB
                            have BK348 := n0_
                            have HB := n1_
                            have BK363 := n2_
                            have GW363 := n3_
                            have GE363 := n4_
                            have NB348_363 := n5_
                            have NB363_348 := n6_
                            clear n0_ n1_ n2_ n3_ n4_ n5_ n6_
                            clear hb hbox hg
                            refine hK.out _ _ ⟨(blk_cell BK348.out 0).trans rfl, (blk_cell BK348.out 1).trans rfl, (blk_cell BK348.out 2).trans rfl, ((HB.out.cell (World.block_lt_of_cell? w _ hw358_0)).trans hw358_0), ((HB.out.cell (World.block_lt_of_cell? w _ hw358_1)).trans hw358_1)⟩ (fun hHeld => ?_)
                            clear hK K
                            refine norm_ (a' := ?_) ?_ ?_
                            rotate_left
                            · show Act.put _ (some 12) _ = _
                              simp only [Act.put, List.setIfInBounds_toArray, List.set_cons_zero, List.set_cons_succ, i64_w, i32_w]
                              rfl
                            refine one_ (i := 5) (N := some 70) #[true, true, true, true, true, true, false, false, false, true, false, false] rfl rfl (one_of HT_.out (by kernel_rfl)) (by decide) (fun K hK => ?_)
                            refine goes_ Try.func43 (by kernel_rfl) rfl #[.agg #[.int .i64 x349000_2, .int .i64 x349001_2, .bool x349002_2], .agg #[.int .i64 ((rd_T57 y344 x11_2).f0), .int .i64 ((rd_T57 y344 x11_2).f1)]] (by rfl) rfl rfl (by (try simp only [List.map_toArray, List.map_cons, List.map_nil]); first | done | rfl | (simp only [List.length_drop, List.length_take]; rfl)) ?_
                            with_reducible refine (catchmentlaw07_step.calls k2 x349000_2 x349001_2 x349002_2 ((rd_T57 y344 x11_2).f0) ((rd_T57 y344 x11_2).f1) t359 t360 t361 t362 _ A25.out).mono ?_
                            rintro e w29 ⟨rfl, hb⟩
                            refine ⟨_, rfl, ?_⟩
                            have n0_ := Aside0.mk (blk_below (g := gb348) (o := .cells #[.int .i64 x349000_2, .int .i64 x349001_2, .bool x349002_2] 32 (0, 0)) (by (with_reducible repeat (first | refine blk_drewN ?_ _ | refine blk_drew ?_ | refine blk_alloc ?_ _)); exact BK348.out) hb)
                            have n1_ := Aside0.mk (blk_below (g := gb363) (o := .cells #[.int .i64 0, .int .i64 0, .bool false] 32 (0, 0)) (by (with_reducible repeat (first | refine blk_drewN ?_ _ | refine blk_drew ?_ | refine blk_alloc ?_ _)); exact BK363.out) hb)
                            have n2_ := Aside0.mk (below_step (by repeat (first | (with_reducible first | exact HB.out | apply below_alloc | apply pw_below_drewN | apply below_drew1 | refine below_set ?_ GE348.out | refine below_set ?_ GE363.out) | exact HB.out)) hb)
                            clear BK348
                            clear BK363
                            clear HB
                            have BK348 := n0_
                            have BK363 := n1_
                            have HB := n2_
                            clear n0_ n1_ n2_
                            (try clear hb)
                            (try clear hb2)
                            (try clear hk)
                            (try clear hi)
                            refine hK.out _ _ ⟨(blk_cell BK348.out 0).trans rfl, (blk_cell BK348.out 1).trans rfl, (blk_cell BK348.out 2).trans rfl, ((HB.out.cell (World.block_lt_of_cell? w _ hw358_0)).trans hw358_0), ((HB.out.cell (World.block_lt_of_cell? w _ hw358_1)).trans hw358_1)⟩ (fun hHeld => ?_)
                            clear hK K
                            refine norm_ (a' := ?_) ?_ ?_
                            rotate_left
                            · show Act.put _ (some 70) _ = _
                              simp only [Act.put, List.setIfInBounds_toArray, List.set_cons_zero, List.set_cons_succ, i64_w, i32_w]
                              rfl
                            refine pure_ (i := 6) (N := some 64) (v := ?_) (a' := ?_) #[true, true, true, true, true, true, true, false, false, true, false, false] rfl rfl (any_of HT_.out (by kernel_rfl)) (fun _ _ _ h => h) (Or.inl ⟨by rfl, ?_⟩) ?_ ?_
                            rotate_left
                            · intro w'
                              go_simp
                              with_reducible rfl
                            rotate_left
                            · simp only [Act.put, List.setIfInBounds_toArray, List.set_cons_zero, List.set_cons_succ, i64_w, i32_w]
                              rfl
                            refine pure_ (i := 7) (N := some 71) (v := ?_) (a' := ?_) #[true, true, true, true, true, true, true, true, false, true, false, false] rfl rfl (any_of HT_.out (by kernel_rfl)) (fun _ _ _ h => h) (Or.inl ⟨by rfl, ?_⟩) ?_ ?_
                            rotate_left
                            · intro w'
                              go_simp
                              with_reducible rfl
                            rotate_left
                            · simp only [Act.put, List.setIfInBounds_toArray, List.set_cons_zero, List.set_cons_succ, i64_w, i32_w]
                              rfl
                            refine pure_ (i := 8) (N := some 72) (v := ?_) (a' := ?_) #[true, true, true, true, true, true, true, true, true, true, false, false] rfl rfl (any_of HT_.out (by kernel_rfl)) (fun _ _ _ h => h) (Or.inl ⟨by rfl, ?_⟩) ?_ ?_
                            rotate_left
                            · intro w'
                              go_simp
                              with_reducible rfl
                            rotate_left
                            · simp only [Act.put, List.setIfInBounds_toArray, List.set_cons_zero, List.set_cons_succ, i64_w, i32_w]
                              rfl
                            exact norm_ (by simp only [putAll, Act.put, List.setIfInBounds_toArray, List.set_cons_zero, List.set_cons_succ]) (hCont (gb363) _ ⟨hHeld, (by (with_reducible repeat (first | refine blk_drewN ?_ _ | refine blk_drew ?_ | refine blk_alloc ?_ _)); exact BK348.out), (by (with_reducible repeat (first | refine blk_drewN ?_ _ | refine blk_drew ?_ | refine blk_alloc ?_ _)); exact BK363.out), GW363.out, GE363.out, NB348_363.out, NB363_348.out, (by repeat (first | (with_reducible first | exact HB.out | apply below_alloc | apply pw_below_drewN | apply below_drew1 | refine below_set ?_ GE348.out | refine below_set ?_ GE363.out) | exact HB.out))⟩)
                        rintro gb363 w30 ⟨hS_, h0_, h1_, h2_, h3_, h4_, h5_, h6_⟩
                        have n0_ : Aside0 (w30.heap[gb348]? = some (.cells #[.int .i64 x349000_2, .int .i64 x349001_2, .bool x349002_2] 32 (0, 0))) := ⟨h0_⟩
                        have n1_ : Aside0 (w30.heap[gb363]? = some (.cells #[.int .i64 0, .int .i64 0, .bool false] 32 (0, 0))) := ⟨h1_⟩
                        have n2_ : Aside0 (w.heap.size ≤ gb363) := ⟨h2_⟩
                        have n3_ : Aside0 (w.heap.size ≤ gb363) := ⟨h3_⟩
                        have n4_ : Aside0 (gb348 ≠ gb363) := ⟨h4_⟩
                        have n5_ : Aside0 (gb363 ≠ gb348) := ⟨h5_⟩
                        have n6_ : Aside0 (Below w.heap.size w w30) := ⟨h6_⟩
                        clear BK348
                        clear HB
                        clear h0_ h1_ h2_ h3_ h4_ h5_ h6_
                        have BK348 := n0_
                        have BK363 := n1_
                        have GW363 := n2_
                        have GE363 := n3_
                        have NB348_363 := n4_
                        have NB363_348 := n5_
                        have HB := n6_
                        clear n0_ n1_ n2_ n3_ n4_ n5_ n6_
                        have hHeld : w30.cell? ⟨gb348, 0, none⟩ = some (.int .i64 x349000_2) ∧ w30.cell? ⟨gb348, 1, none⟩ = some (.int .i64 x349001_2) ∧ w30.cell? ⟨gb348, 2, none⟩ = some (.bool x349002_2) ∧ w30.cell? (ad358.add ((x11_2).toNat * 2)) = some (.int .i64 ((rd_T57 y344 x11_2).f0)) ∧ w30.cell? ⟨(ad358.add ((x11_2).toNat * 2)).block, (ad358.add ((x11_2).toNat * 2)).off + 1, none⟩ = some (.int .i64 ((rd_T57 y344 x11_2).f1)) := hS_
                        refine norm_ (a' := ?_) ?_ ?_
                        rotate_left
                        · simp only [putAll, Act.put, List.setIfInBounds_toArray, List.set_cons_zero, List.set_cons_succ]
                          rfl
                        refine one_ (i := 10) (N := none) #[true, true, true, true, true, true, true, true, true, true, true, false] rfl rfl (one_of HT_.out (by kernel_rfl)) (by decide) (fun K hK => ?_)
                        have hs31 : w30.cell? ⟨gb363, 0, none⟩ = some (.int .i64 0) := (blk_cell BK363.out 0).trans rfl
                        have hfs31 := blk_frozen BK363.out 0
                        have hns31_0 := NB348_363.out
                        have hms31_0 := NB363_348.out
                        have hs32 : w30.cell? ⟨gb363, 1, none⟩ = some (.int .i64 0) := (blk_cell BK363.out 1).trans rfl
                        have hfs32 := blk_frozen BK363.out 1
                        have hns32_0 := NB348_363.out
                        have hms32_0 := NB363_348.out
                        have hs33 : w30.cell? ⟨gb363, 2, none⟩ = some (.bool false) := (blk_cell BK363.out 2).trans rfl
                        have hfs33 := blk_frozen BK363.out 2
                        have hns33_0 := NB348_363.out
                        have hms33_0 := NB363_348.out
                        refine skip_ (w1 := ?_) (by rfl) rfl ?_ ?_
                        rotate_left
                        · go_simp
                          rfl
                        refine hK.out _ _ ⟨((cell_far (p := ⟨gb363, _, none⟩) NB348_363.out _).trans (((cell_far (p := ⟨gb363, _, none⟩) NB348_363.out _).trans (((cell_far (p := ⟨gb363, _, none⟩) NB348_363.out _).trans (hHeld.1)))))), ((cell_far (p := ⟨gb363, _, none⟩) NB348_363.out _).trans (((cell_far (p := ⟨gb363, _, none⟩) NB348_363.out _).trans (((cell_far (p := ⟨gb363, _, none⟩) NB348_363.out _).trans (hHeld.2.1)))))), ((cell_far (p := ⟨gb363, _, none⟩) NB348_363.out _).trans (((cell_far (p := ⟨gb363, _, none⟩) NB348_363.out _).trans (((cell_far (p := ⟨gb363, _, none⟩) NB348_363.out _).trans (hHeld.2.2.1)))))), ((cell_far (p := ⟨gb363, _, none⟩) (by first | exact Nat.ne_of_lt (Nat.lt_of_lt_of_le (by have := World.block_lt_of_cell? _ _ hw358_0; first | rwa [add_block] at this | exact this) GW363.out) | (rw [add_block]; exact Nat.ne_of_lt (Nat.lt_of_lt_of_le (by have := World.block_lt_of_cell? _ _ hw358_0; first | rwa [add_block] at this | exact this) GW363.out)) | (show (Addr.add _ _).block ≠ _; rw [add_block]; exact Nat.ne_of_lt (Nat.lt_of_lt_of_le (by have := World.block_lt_of_cell? _ _ hw358_0; first | rwa [add_block] at this | exact this) GW363.out)) | (dsimp only; exact Nat.ne_of_lt (Nat.lt_of_lt_of_le (by have := World.block_lt_of_cell? _ _ hw358_0; first | rwa [add_block] at this | exact this) GW363.out))) _).trans (((cell_far (p := ⟨gb363, _, none⟩) (by first | exact Nat.ne_of_lt (Nat.lt_of_lt_of_le (by have := World.block_lt_of_cell? _ _ hw358_0; first | rwa [add_block] at this | exact this) GW363.out) | (rw [add_block]; exact Nat.ne_of_lt (Nat.lt_of_lt_of_le (by have := World.block_lt_of_cell? _ _ hw358_0; first | rwa [add_block] at this | exact this) GW363.out)) | (show (Addr.add _ _).block ≠ _; rw [add_block]; exact Nat.ne_of_lt (Nat.lt_of_lt_of_le (by have := World.block_lt_of_cell? _ _ hw358_0; first | rwa [add_block] at this | exact this) GW363.out)) | (dsimp only; exact Nat.ne_of_lt (Nat.lt_of_lt_of_le (by have := World.block_lt_of_cell? _ _ hw358_0; first | rwa [add_block] at this | exact this) GW363.out))) _).trans (((cell_far (p := ⟨gb363, _, none⟩) (by first | exact Nat.ne_of_lt (Nat.lt_of_lt_of_le (by have := World.block_lt_of_cell? _ _ hw358_0; first | rwa [add_block] at this | exact this) GW363.out) | (rw [add_block]; exact Nat.ne_of_lt (Nat.lt_of_lt_of_le (by have := World.block_lt_of_cell? _ _ hw358_0; first | rwa [add_block] at this | exact this) GW363.out)) | (show (Addr.add _ _).block ≠ _; rw [add_block]; exact Nat.ne_of_lt (Nat.lt_of_lt_of_le (by have := World.block_lt_of_cell? _ _ hw358_0; first | rwa [add_block] at this | exact this) GW363.out)) | (dsimp only; exact Nat.ne_of_lt (Nat.lt_of_lt_of_le (by have := World.block_lt_of_cell? _ _ hw358_0; first | rwa [add_block] at this | exact this) GW363.out))) _).trans (hHeld.2.2.2.1)))))), ((cell_far (p := ⟨gb363, _, none⟩) (by first | exact Nat.ne_of_lt (Nat.lt_of_lt_of_le (by have := World.block_lt_of_cell? _ _ hw358_1; first | rwa [add_block] at this | exact this) GW363.out) | (rw [add_block]; exact Nat.ne_of_lt (Nat.lt_of_lt_of_le (by have := World.block_lt_of_cell? _ _ hw358_1; first | rwa [add_block] at this | exact this) GW363.out)) | (show (Addr.add _ _).block ≠ _; rw [add_block]; exact Nat.ne_of_lt (Nat.lt_of_lt_of_le (by have := World.block_lt_of_cell? _ _ hw358_1; first | rwa [add_block] at this | exact this) GW363.out)) | (dsimp only; exact Nat.ne_of_lt (Nat.lt_of_lt_of_le (by have := World.block_lt_of_cell? _ _ hw358_1; first | rwa [add_block] at this | exact this) GW363.out))) _).trans (((cell_far (p := ⟨gb363, _, none⟩) (by first | exact Nat.ne_of_lt (Nat.lt_of_lt_of_le (by have := World.block_lt_of_cell? _ _ hw358_1; first | rwa [add_block] at this | exact this) GW363.out) | (rw [add_block]; exact Nat.ne_of_lt (Nat.lt_of_lt_of_le (by have := World.block_lt_of_cell? _ _ hw358_1; first | rwa [add_block] at this | exact this) GW363.out)) | (show (Addr.add _ _).block ≠ _; rw [add_block]; exact Nat.ne_of_lt (Nat.lt_of_lt_of_le (by have := World.block_lt_of_cell? _ _ hw358_1; first | rwa [add_block] at this | exact this) GW363.out)) | (dsimp only; exact Nat.ne_of_lt (Nat.lt_of_lt_of_le (by have := World.block_lt_of_cell? _ _ hw358_1; first | rwa [add_block] at this | exact this) GW363.out))) _).trans (((cell_far (p := ⟨gb363, _, none⟩) (by first | exact Nat.ne_of_lt (Nat.lt_of_lt_of_le (by have := World.block_lt_of_cell? _ _ hw358_1; first | rwa [add_block] at this | exact this) GW363.out) | (rw [add_block]; exact Nat.ne_of_lt (Nat.lt_of_lt_of_le (by have := World.block_lt_of_cell? _ _ hw358_1; first | rwa [add_block] at this | exact this) GW363.out)) | (show (Addr.add _ _).block ≠ _; rw [add_block]; exact Nat.ne_of_lt (Nat.lt_of_lt_of_le (by have := World.block_lt_of_cell? _ _ hw358_1; first | rwa [add_block] at this | exact this) GW363.out)) | (dsimp only; exact Nat.ne_of_lt (Nat.lt_of_lt_of_le (by have := World.block_lt_of_cell? _ _ hw358_1; first | rwa [add_block] at this | exact this) GW363.out))) _).trans (hHeld.2.2.2.2))))))⟩ (fun hHeld => ?_)
                        clear hK K
                        refine pure_ (i := 11) (N := some 13) (v := ?_) (a' := ?_) #[true, true, true, true, true, true, true, true, true, true, true, true] rfl rfl (any_of HT_.out (by kernel_rfl)) (fun _ _ _ h => h) (Or.inl ⟨by rfl, ?_⟩) ?_ ?_
                        rotate_left
                        · intro w'
                          go_simp
                          with_reducible rfl
                        rotate_left
                        · simp only [Act.put, List.setIfInBounds_toArray, List.set_cons_zero, List.set_cons_succ, i64_w, i32_w]
                          rfl
                        refine done_ (done_of HT_.out (by kernel_rfl)) ?_
                        go_upto_region 16 with (fail)
                        go_cut [10] (fun v10 wc => ∃ (kq : Nat) (x10_25 : Bool), v10 = .bool x10_25 ∧ Aside0 (catchmentlaw07_VlockSaw.j2 kq y344 t354 x10_25 x11_2 x349000_2 x349001_2 x349002_2 t359 t360 t361 = some r) ∧ Aside0 (kq ≤ k2) ∧ Aside0 (wc.heap[gb348]? = some (.cells #[.int .i64 x349000_2, .int .i64 x349001_2, .bool x349002_2] 32 (0, 0))) ∧ Aside0 (wc.heap[gb363]? = some (.cells #[.int .i64 t359, .int .i64 t360, .bool t361] 32 (0, 0))) ∧ Aside0 (Below w.heap.size w wc))
                        case first =>
                          have H := HC26.out
                          clear HC26
                          by_cases c34 : x10_2 = true
                          · subst c34
                            have H1 : (catchmentlaw07_VlockSaw.j2 k2 y344 t354 true x11_2 x349000_2 x349001_2 x349002_2 t359 t360 t361) = some r := by rw [if_pos rfl] at H; exact H
                            clear H
                            have H := H1
                            clear H1
                            have H' := Aside0.mk H
                            clear H
                            go_wp2
                            go_meet
                            case rel => exact ⟨_, (true), (by first | rfl | (simp; done) | (simp [*]; done)), H', ⟨by have := HK1.out; have := HK2.out; first | omega | exact Nat.le_refl _⟩, ⟨by (with_reducible repeat (first | refine blk_drewN ?_ _ | refine blk_drew ?_ | refine blk_alloc ?_ _)); refine blk_far ?_ NB348_363.out _; (with_reducible repeat (first | refine blk_drewN ?_ _ | refine blk_drew ?_ | refine blk_alloc ?_ _)); refine blk_far ?_ NB348_363.out _; (with_reducible repeat (first | refine blk_drewN ?_ _ | refine blk_drew ?_ | refine blk_alloc ?_ _)); refine blk_far ?_ NB348_363.out _; (with_reducible repeat (first | refine blk_drewN ?_ _ | refine blk_drew ?_ | refine blk_alloc ?_ _)); exact BK348.out⟩, ⟨by (with_reducible repeat (first | refine blk_drewN ?_ _ | refine blk_drew ?_ | refine blk_alloc ?_ _)); refine blk_put (cs := #[.int .i64 t359, .int .i64 t360, .bool false]) ?_ 2 _ rfl; (with_reducible repeat (first | refine blk_drewN ?_ _ | refine blk_drew ?_ | refine blk_alloc ?_ _)); refine blk_put (cs := #[.int .i64 t359, .int .i64 0, .bool false]) ?_ 1 _ rfl; (with_reducible repeat (first | refine blk_drewN ?_ _ | refine blk_drew ?_ | refine blk_alloc ?_ _)); refine blk_put (cs := #[.int .i64 0, .int .i64 0, .bool false]) ?_ 0 _ rfl; (with_reducible repeat (first | refine blk_drewN ?_ _ | refine blk_drew ?_ | refine blk_alloc ?_ _)); exact BK363.out⟩, ⟨by repeat (first | (with_reducible first | exact HB.out | apply below_alloc | apply pw_below_drewN | apply below_drew1 | refine below_set ?_ GE348.out | refine below_set ?_ GE363.out) | exact HB.out)⟩⟩
                          · replace c34 := Bool.eq_false_iff.mpr c34
                            subst c34
                            have H1 : (if t362 = true then (catchmentlaw07_VlockSaw.j2 k2 y344 t354 (decide (((rd_T57 y344 x11_2).f0) ≥ 2)) x11_2 x349000_2 x349001_2 x349002_2 t359 t360 t361) else (catchmentlaw07_VlockSaw.j2 k2 y344 t354 false x11_2 x349000_2 x349001_2 x349002_2 t359 t360 t361)) = some r := by rw [if_neg (show ¬ (false = true) by decide)] at H; exact H
                            clear H
                            have H := H1
                            clear H1
                            by_cases c35 : t362 = true
                            · subst c35
                              have H1 : (catchmentlaw07_VlockSaw.j2 k2 y344 t354 (decide (((rd_T57 y344 x11_2).f0) ≥ 2)) x11_2 x349000_2 x349001_2 x349002_2 t359 t360 t361) = some r := by rw [if_pos rfl] at H; exact H
                              clear H
                              have H := H1
                              clear H1
                              have H' := Aside0.mk H
                              clear H
                              have p364 : 0 ≤ (x11_2 : Int) := of_decide_eq_true (by first | (with_reducible assumption) | assumption)
                              have q364 : x11_2 < (y344.length : Int) := of_decide_eq_true (by first | (with_reducible assumption) | assumption)
                              obtain ⟨ad364, e364, hx364_0, hx364_1⟩ := at_T57 HR347.out x11_2 p364 q364
                              obtain rfl : ad358 = ad364 := (by injection e364)
                              have hn364_0 : ad358.block ≠ gb363 := Nat.ne_of_lt (Nat.lt_of_lt_of_le (by have := World.block_lt_of_cell? _ _ hx364_0; first | rwa [add_block] at this | exact this) GW363.out)
                              have hn364_1 : ad358.block ≠ gb363 := Nat.ne_of_lt (Nat.lt_of_lt_of_le (by have := World.block_lt_of_cell? _ _ hx364_0; first | rwa [add_block] at this | exact this) GW363.out)
                              have hn364_2 : ad358.block ≠ gb363 := Nat.ne_of_lt (Nat.lt_of_lt_of_le (by have := World.block_lt_of_cell? _ _ hx364_0; first | rwa [add_block] at this | exact this) GW363.out)
                              replace hx364_0 := (HB.out.cell (World.block_lt_of_cell? w _ hx364_0)).trans hx364_0
                              replace hx364_1 := (HB.out.cell (World.block_lt_of_cell? w _ hx364_1)).trans hx364_1
                              replace hx364_0 := (cell_far (p := ⟨gb363, 0, none⟩) (by first | (rw [add_block]; exact hn364_0) | (show (Addr.add _ _).block ≠ _; rw [add_block]; exact hn364_0) | exact hn364_0) (.int .i64 t359)).trans hx364_0
                              replace hx364_1 := (cell_far (p := ⟨gb363, 0, none⟩) (by first | (rw [add_block]; exact hn364_0) | (show (Addr.add _ _).block ≠ _; rw [add_block]; exact hn364_0) | exact hn364_0) (.int .i64 t359)).trans hx364_1
                              replace hx364_0 := (cell_far (p := ⟨gb363, 1, none⟩) (by first | (rw [add_block]; exact hn364_1) | (show (Addr.add _ _).block ≠ _; rw [add_block]; exact hn364_1) | exact hn364_1) (.int .i64 t360)).trans hx364_0
                              replace hx364_1 := (cell_far (p := ⟨gb363, 1, none⟩) (by first | (rw [add_block]; exact hn364_1) | (show (Addr.add _ _).block ≠ _; rw [add_block]; exact hn364_1) | exact hn364_1) (.int .i64 t360)).trans hx364_1
                              replace hx364_0 := (cell_far (p := ⟨gb363, 2, none⟩) (by first | (rw [add_block]; exact hn364_2) | (show (Addr.add _ _).block ≠ _; rw [add_block]; exact hn364_2) | exact hn364_2) (.bool t361)).trans hx364_0
                              replace hx364_1 := (cell_far (p := ⟨gb363, 2, none⟩) (by first | (rw [add_block]; exact hn364_2) | (show (Addr.add _ _).block ≠ _; rw [add_block]; exact hn364_2) | exact hn364_2) (.bool t361)).trans hx364_1
                              clear hn364_0
                              clear hn364_1
                              clear hn364_2
                              replace p364 := eq_true p364
                              replace q364 := eq_true q364
                              go_wp2
                              go_meet
                              case rel => exact ⟨_, (decide (((rd_T57 y344 x11_2).f0) ≥ 2)), (by first | rfl | (simp; done) | (simp [*]; done)), H', ⟨by have := HK1.out; have := HK2.out; first | omega | exact Nat.le_refl _⟩, ⟨by (with_reducible repeat (first | refine blk_drewN ?_ _ | refine blk_drew ?_ | refine blk_alloc ?_ _)); refine blk_far ?_ NB348_363.out _; (with_reducible repeat (first | refine blk_drewN ?_ _ | refine blk_drew ?_ | refine blk_alloc ?_ _)); refine blk_far ?_ NB348_363.out _; (with_reducible repeat (first | refine blk_drewN ?_ _ | refine blk_drew ?_ | refine blk_alloc ?_ _)); refine blk_far ?_ NB348_363.out _; (with_reducible repeat (first | refine blk_drewN ?_ _ | refine blk_drew ?_ | refine blk_alloc ?_ _)); exact BK348.out⟩, ⟨by (with_reducible repeat (first | refine blk_drewN ?_ _ | refine blk_drew ?_ | refine blk_alloc ?_ _)); refine blk_put (cs := #[.int .i64 t359, .int .i64 t360, .bool false]) ?_ 2 _ rfl; (with_reducible repeat (first | refine blk_drewN ?_ _ | refine blk_drew ?_ | refine blk_alloc ?_ _)); refine blk_put (cs := #[.int .i64 t359, .int .i64 0, .bool false]) ?_ 1 _ rfl; (with_reducible repeat (first | refine blk_drewN ?_ _ | refine blk_drew ?_ | refine blk_alloc ?_ _)); refine blk_put (cs := #[.int .i64 0, .int .i64 0, .bool false]) ?_ 0 _ rfl; (with_reducible repeat (first | refine blk_drewN ?_ _ | refine blk_drew ?_ | refine blk_alloc ?_ _)); exact BK363.out⟩, ⟨by repeat (first | (with_reducible first | exact HB.out | apply below_alloc | apply pw_below_drewN | apply below_drew1 | refine below_set ?_ GE348.out | refine below_set ?_ GE363.out) | exact HB.out)⟩⟩
                            · replace c35 := Bool.eq_false_iff.mpr c35
                              subst c35
                              have H1 : (catchmentlaw07_VlockSaw.j2 k2 y344 t354 false x11_2 x349000_2 x349001_2 x349002_2 t359 t360 t361) = some r := by rw [if_neg (show ¬ (false = true) by decide)] at H; exact H
                              clear H
                              have H := H1
                              clear H1
                              have H' := Aside0.mk H
                              clear H
                              go_wp2
                              go_meet
                              case rel => exact ⟨_, (false), (by first | rfl | (simp; done) | (simp [*]; done)), H', ⟨by have := HK1.out; have := HK2.out; first | omega | exact Nat.le_refl _⟩, ⟨by (with_reducible repeat (first | refine blk_drewN ?_ _ | refine blk_drew ?_ | refine blk_alloc ?_ _)); refine blk_far ?_ NB348_363.out _; (with_reducible repeat (first | refine blk_drewN ?_ _ | refine blk_drew ?_ | refine blk_alloc ?_ _)); refine blk_far ?_ NB348_363.out _; (with_reducible repeat (first | refine blk_drewN ?_ _ | refine blk_drew ?_ | refine blk_alloc ?_ _)); refine blk_far ?_ NB348_363.out _; (with_reducible repeat (first | refine blk_drewN ?_ _ | refine blk_drew ?_ | refine blk_alloc ?_ _)); exact BK348.out⟩, ⟨by (with_reducible repeat (first | refine blk_drewN ?_ _ | refine blk_drew ?_ | refine blk_alloc ?_ _)); refine blk_put (cs := #[.int .i64 t359, .int .i64 t360, .bool false]) ?_ 2 _ rfl; (with_reducible repeat (first | refine blk_drewN ?_ _ | refine blk_drew ?_ | refine blk_alloc ?_ _)); refine blk_put (cs := #[.int .i64 t359, .int .i64 0, .bool false]) ?_ 1 _ rfl; (with_reducible repeat (first | refine blk_drewN ?_ _ | refine blk_drew ?_ | refine blk_alloc ?_ _)); refine blk_put (cs := #[.int .i64 0, .int .i64 0, .bool false]) ?_ 0 _ rfl; (with_reducible repeat (first | refine blk_drewN ?_ _ | refine blk_drew ?_ | refine blk_alloc ?_ _)); exact BK363.out⟩, ⟨by repeat (first | (with_reducible first | exact HB.out | apply below_alloc | apply pw_below_drewN | apply below_drew1 | refine below_set ?_ GE348.out | refine below_set ?_ GE363.out) | exact HB.out)⟩⟩
                        case rest =>
                          clear HC26
                          try clear c1
                          try clear c2
                          try clear p2
                          try clear c3
                          try clear p3
                          try clear q3
                          try clear hx3
                          try clear c4
                          try clear c4b0
                          try clear c4b1
                          try clear c5
                          try clear c5b0
                          try clear c5b1
                          try clear c6
                          try clear c6b0
                          try clear c6b1
                          try clear p6
                          try clear q7
                          try clear c10
                          try clear c10b0
                          try clear c11
                          try clear c11b0
                          try clear c12
                          try clear c12b0
                          try clear c20
                          try clear c20b0
                          try clear c20b1
                          try clear c21
                          try clear c23
                          try clear c23b0
                          try clear c24
                          try clear c24b0
                          try clear c34
                          try clear p34
                          try clear q34
                          try clear hx34
                          try clear c35
                          try clear p35
                          try clear q35
                          try clear hx35
                          try clear hcz21_0
                          try clear hcz21_1
                          try clear hcz21_2
                          try clear hcz9_0
                          try clear hcz9_1
                          try clear hcz9_2
                          try clear hfz21_0
                          try clear hfz21_1
                          try clear hfz21_2
                          try clear hfz9_0
                          try clear hfz9_1
                          try clear hfz9_2
                          try clear hx349_0
                          try clear hx349_1
                          try clear hx358_0
                          try clear hx358_1
                          try clear hx364_0
                          try clear hx364_1
                          try clear p2
                          try clear p3
                          try clear p349
                          try clear p358
                          try clear p364
                          try clear p6
                          try clear q3
                          try clear q349
                          try clear q358
                          try clear q364
                          try clear q7
                          obtain ⟨kq, x10_25, rfl, HA, HJ25, BK348, BK363, HB⟩ := hcut
                          cases kq with
                          | zero => exact absurd HA.out (by simp [catchmentlaw07_VlockSaw.j2])
                          | succ kj25 =>
                            have H := HA.out
                            clear HA
                            simp only [catchmentlaw07_VlockSaw.j2] at H
                            have HC36 := Aside0.mk H
                            clear H
                            go_upto_region 17 with (fail)
                            go_cut [97] (fun v97 wc => ∃ (kq : Nat) (x97_35 : Bool), v97 = .bool x97_35 ∧ Aside0 (catchmentlaw07_VlockSaw.j3 kq y344 t354 x10_25 x11_2 x97_35 t359 t360 t361 = some r) ∧ Aside0 (kq ≤ kj25) ∧ Aside0 (wc.heap[gb348]? = some (.cells #[.int .i64 x349000_2, .int .i64 x349001_2, .bool x349002_2] 32 (0, 0))) ∧ Aside0 (wc.heap[gb363]? = some (.cells #[.int .i64 t359, .int .i64 t360, .bool t361] 32 (0, 0))) ∧ Aside0 (Below w.heap.size w wc))
                            case first =>
                              have H := HC36.out
                              clear HC36
                              by_cases c37 : t359 < x349000_2
                              · rw [if_pos c37] at H
                                have c37b0 : decide (t359 < x349000_2) = true := decide_eq_true c37
                                clear c37
                                (first | rw [c37b0] | (simp only [i64_w, i32_w]; rw [c37b0]) | skip)
                                have H' := Aside0.mk H
                                clear H
                                have hnb38 := NB363_348.out
                                have hnc38 := NB348_363.out
                                have hcz39_0 : wc.cell? ⟨gb363, 0, none⟩ = some (.int .i64 t359) := (blk_cell BK363.out 0).trans rfl
                                have hcz39_1 : wc.cell? ⟨gb363, 1, none⟩ = some (.int .i64 t360) := (blk_cell BK363.out 1).trans rfl
                                have hcz39_2 : wc.cell? ⟨gb363, 2, none⟩ = some (.bool t361) := (blk_cell BK363.out 2).trans rfl
                                have hfz39_0 := blk_frozen BK363.out 0
                                have hfz39_1 := blk_frozen BK363.out 1
                                have hfz39_2 := blk_frozen BK363.out 2
                                have hcz40_0 : wc.cell? ⟨gb348, 0, none⟩ = some (.int .i64 x349000_2) := (blk_cell BK348.out 0).trans rfl
                                have hcz40_1 : wc.cell? ⟨gb348, 1, none⟩ = some (.int .i64 x349001_2) := (blk_cell BK348.out 1).trans rfl
                                have hcz40_2 : wc.cell? ⟨gb348, 2, none⟩ = some (.bool x349002_2) := (blk_cell BK348.out 2).trans rfl
                                have hfz40_0 := blk_frozen BK348.out 0
                                have hfz40_1 := blk_frozen BK348.out 1
                                have hfz40_2 := blk_frozen BK348.out 2
                                go_wp2
                                go_meet
                                case rel => exact ⟨_, (true), (by first | rfl | (simp; done) | (simp [*]; done)), H', ⟨by have := HK1.out; have := HK2.out; have := HJ25.out; first | omega | exact Nat.le_refl _⟩, ⟨by (with_reducible repeat (first | refine blk_drewN ?_ _ | refine blk_drew ?_ | refine blk_alloc ?_ _)); exact BK348.out⟩, ⟨by (with_reducible repeat (first | refine blk_drewN ?_ _ | refine blk_drew ?_ | refine blk_alloc ?_ _)); exact BK363.out⟩, ⟨by repeat (first | (with_reducible first | exact HB.out | apply below_alloc | apply pw_below_drewN | apply below_drew1 | refine below_set ?_ GE348.out | refine below_set ?_ GE363.out) | exact HB.out)⟩⟩
                              · rw [if_neg c37] at H
                                have c37b0 : decide (t359 < x349000_2) = false := decide_eq_false c37
                                clear c37
                                (first | rw [c37b0] | (simp only [i64_w, i32_w]; rw [c37b0]) | skip)
                                have H' := Aside0.mk H
                                clear H
                                have hnb41 := NB363_348.out
                                have hnc41 := NB348_363.out
                                have hcz42_0 : wc.cell? ⟨gb363, 0, none⟩ = some (.int .i64 t359) := (blk_cell BK363.out 0).trans rfl
                                have hcz42_1 : wc.cell? ⟨gb363, 1, none⟩ = some (.int .i64 t360) := (blk_cell BK363.out 1).trans rfl
                                have hcz42_2 : wc.cell? ⟨gb363, 2, none⟩ = some (.bool t361) := (blk_cell BK363.out 2).trans rfl
                                have hfz42_0 := blk_frozen BK363.out 0
                                have hfz42_1 := blk_frozen BK363.out 1
                                have hfz42_2 := blk_frozen BK363.out 2
                                have hcz43_0 : wc.cell? ⟨gb348, 0, none⟩ = some (.int .i64 x349000_2) := (blk_cell BK348.out 0).trans rfl
                                have hcz43_1 : wc.cell? ⟨gb348, 1, none⟩ = some (.int .i64 x349001_2) := (blk_cell BK348.out 1).trans rfl
                                have hcz43_2 : wc.cell? ⟨gb348, 2, none⟩ = some (.bool x349002_2) := (blk_cell BK348.out 2).trans rfl
                                have hfz43_0 := blk_frozen BK348.out 0
                                have hfz43_1 := blk_frozen BK348.out 1
                                have hfz43_2 := blk_frozen BK348.out 2
                                go_wp2
                                go_meet
                                case rel => exact ⟨_, ((x10_25 != (decide (t359 > t354)))), (by first | rfl | (simp; done) | (simp [*]; done)), H', ⟨by have := HK1.out; have := HK2.out; have := HJ25.out; first | omega | exact Nat.le_refl _⟩, ⟨by (with_reducible repeat (first | refine blk_drewN ?_ _ | refine blk_drew ?_ | refine blk_alloc ?_ _)); exact BK348.out⟩, ⟨by (with_reducible repeat (first | refine blk_drewN ?_ _ | refine blk_drew ?_ | refine blk_alloc ?_ _)); exact BK363.out⟩, ⟨by repeat (first | (with_reducible first | exact HB.out | apply below_alloc | apply pw_below_drewN | apply below_drew1 | refine below_set ?_ GE348.out | refine below_set ?_ GE363.out) | exact HB.out)⟩⟩
                            case rest =>
                              clear HC36
                              try clear c1
                              try clear c2
                              try clear p2
                              try clear c3
                              try clear p3
                              try clear q3
                              try clear hx3
                              try clear c4
                              try clear c4b0
                              try clear c4b1
                              try clear c5
                              try clear c5b0
                              try clear c5b1
                              try clear c6
                              try clear c6b0
                              try clear c6b1
                              try clear p6
                              try clear q7
                              try clear c10
                              try clear c10b0
                              try clear c11
                              try clear c11b0
                              try clear c12
                              try clear c12b0
                              try clear c20
                              try clear c20b0
                              try clear c20b1
                              try clear c21
                              try clear c23
                              try clear c23b0
                              try clear c24
                              try clear c24b0
                              try clear c34
                              try clear p34
                              try clear q34
                              try clear hx34
                              try clear c35
                              try clear p35
                              try clear q35
                              try clear hx35
                              try clear p36
                              try clear q36
                              try clear hx36
                              try clear c37
                              try clear c37b0
                              try clear c38
                              try clear c41
                              try clear c43
                              try clear hcz21_0
                              try clear hcz21_1
                              try clear hcz21_2
                              try clear hcz39_0
                              try clear hcz39_1
                              try clear hcz39_2
                              try clear hcz40_0
                              try clear hcz40_1
                              try clear hcz40_2
                              try clear hcz42_0
                              try clear hcz42_1
                              try clear hcz42_2
                              try clear hcz43_0
                              try clear hcz43_1
                              try clear hcz43_2
                              try clear hcz9_0
                              try clear hcz9_1
                              try clear hcz9_2
                              try clear hfz21_0
                              try clear hfz21_1
                              try clear hfz21_2
                              try clear hfz39_0
                              try clear hfz39_1
                              try clear hfz39_2
                              try clear hfz40_0
                              try clear hfz40_1
                              try clear hfz40_2
                              try clear hfz42_0
                              try clear hfz42_1
                              try clear hfz42_2
                              try clear hfz43_0
                              try clear hfz43_1
                              try clear hfz43_2
                              try clear hfz9_0
                              try clear hfz9_1
                              try clear hfz9_2
                              try clear hx349_0
                              try clear hx349_1
                              try clear hx358_0
                              try clear hx358_1
                              try clear hx364_0
                              try clear hx364_1
                              try clear p2
                              try clear p3
                              try clear p34
                              try clear p349
                              try clear p35
                              try clear p358
                              try clear p364
                              try clear p6
                              try clear q3
                              try clear q34
                              try clear q349
                              try clear q35
                              try clear q358
                              try clear q364
                              try clear q7
                              obtain ⟨kq, x97_35, rfl, HA, HJ35, BK348, BK363, HB⟩ := hcut
                              cases kq with
                              | zero => exact absurd HA.out (by simp [catchmentlaw07_VlockSaw.j3])
                              | succ kj35 =>
                                have H := HA.out
                                clear HA
                                simp only [catchmentlaw07_VlockSaw.j3] at H
                                by_cases c44 : x97_35 = true
                                · subst c44
                                  have H1 : (none) = some r := by rw [if_pos rfl] at H; exact H
                                  clear H
                                  have H := H1
                                  clear H1
                                  exact absurd H (by simp)
                                · replace c44 := Bool.eq_false_iff.mpr c44
                                  subst c44
                                  have H1 : ((vlock_Valid.f t359 t360 t361 t354).bind fun t365 => (if x10_25 = true then (if ((t365 == 0) != false) = true then (none) else (catchmentlaw07_VlockSaw.l1 kj35 y344 t354 x10_25 (wrap64 (x11_2 + 1)) t359 t360 t361)) else (if ((t365 == 0) != (t360 == 0)) = true then (none) else (catchmentlaw07_VlockSaw.l1 kj35 y344 t354 x10_25 (wrap64 (x11_2 + 1)) t359 t360 t361)))) = some r := by rw [if_neg (show ¬ (false = true) by decide)] at H; exact H
                                  clear H
                                  have H := H1
                                  clear H1
                                  replace H := Option.bind_eq_some_iff.mp H
                                  obtain ⟨t365, A450, H⟩ := H
                                  replace H : (if x10_25 = true then (if ((t365 == 0) != false) = true then (none) else (catchmentlaw07_VlockSaw.l1 kj35 y344 t354 x10_25 (wrap64 (x11_2 + 1)) t359 t360 t361)) else (if ((t365 == 0) != (t360 == 0)) = true then (none) else (catchmentlaw07_VlockSaw.l1 kj35 y344 t354 x10_25 (wrap64 (x11_2 + 1)) t359 t360 t361))) = some r := H
                                  have A45 := Aside0.mk A450
                                  clear A450
                                  by_cases c46 : x10_25 = true
                                  · subst c46
                                    have H1 : (if ((t365 == 0) != false) = true then (none) else (catchmentlaw07_VlockSaw.l1 kj35 y344 t354 true (wrap64 (x11_2 + 1)) t359 t360 t361)) = some r := by rw [if_pos rfl] at H; exact H
                                    clear H
                                    have H := H1
                                    clear H1
                                    by_cases c47 : ((t365 == 0) != false) = true
                                    · rw [if_pos c47] at H
                                      exact absurd H (by simp)
                                    · rw [if_neg c47] at H
                                      have c47b0 : ((t365 == 0) != false) = false := by simpa using c47
                                      (try (have c47b1 : decide ((t365 == 0) = false) = true := by simpa using c47))
                                      (try (have c47b2 : ((t365 == 0) == false) = true := by simpa using c47))
                                      clear c47
                                      have H' := Aside0.mk H
                                      clear H
                                      have hnb48 := NB363_348.out
                                      have hnc48 := NB348_363.out
                                      have hcz49_0 : wc.cell? ⟨gb363, 0, none⟩ = some (.int .i64 t359) := (blk_cell BK363.out 0).trans rfl
                                      have hcz49_1 : wc.cell? ⟨gb363, 1, none⟩ = some (.int .i64 t360) := (blk_cell BK363.out 1).trans rfl
                                      have hcz49_2 : wc.cell? ⟨gb363, 2, none⟩ = some (.bool t361) := (blk_cell BK363.out 2).trans rfl
                                      have hfz49_0 := blk_frozen BK363.out 0
                                      have hfz49_1 := blk_frozen BK363.out 1
                                      have hfz49_2 := blk_frozen BK363.out 2
                                      have hcz50_0 : wc.cell? ⟨gb348, 0, none⟩ = some (.int .i64 x349000_2) := (blk_cell BK348.out 0).trans rfl
                                      have hcz50_1 : wc.cell? ⟨gb348, 1, none⟩ = some (.int .i64 x349001_2) := (blk_cell BK348.out 1).trans rfl
                                      have hcz50_2 : wc.cell? ⟨gb348, 2, none⟩ = some (.bool x349002_2) := (blk_cell BK348.out 2).trans rfl
                                      have hfz50_0 := blk_frozen BK348.out 0
                                      have hfz50_1 := blk_frozen BK348.out 1
                                      have hfz50_2 := blk_frozen BK348.out 2
                                      go_wp2_with (first | ((with_reducible refine gate_callee (f := 24) rfl ?_); refine goesL_ (some 101) rfl rfl Try.func24 (by kernel_rfl) rfl #[.agg #[.int .i64 t359, .int .i64 t360, .bool t361], .int .i64 t354] rfl (by (try simp only [List.map_toArray, List.map_cons, List.map_nil]); first | done | rfl | (simp only [List.length_drop, List.length_take]; rfl)) ?_; (with_reducible refine (vlock_Valid.calls t359 t360 t361 t354 t365 _ A45.out).mono ?_); rintro e w51 ⟨rfl, hb⟩; refine ⟨_, rfl, ?_⟩; have n0_ := Aside0.mk (blk_below (g := gb348) (o := .cells #[.int .i64 t359, .int .i64 t360, .bool t361] 32 (0, 0)) (by (with_reducible repeat (first | refine blk_drewN ?_ _ | refine blk_drew ?_ | refine blk_alloc ?_ _)); refine blk_put (cs := #[.int .i64 t359, .int .i64 t360, .bool x349002_2]) ?_ 2 _ rfl; (with_reducible repeat (first | refine blk_drewN ?_ _ | refine blk_drew ?_ | refine blk_alloc ?_ _)); refine blk_put (cs := #[.int .i64 t359, .int .i64 x349001_2, .bool x349002_2]) ?_ 1 _ rfl; (with_reducible repeat (first | refine blk_drewN ?_ _ | refine blk_drew ?_ | refine blk_alloc ?_ _)); refine blk_put (cs := #[.int .i64 x349000_2, .int .i64 x349001_2, .bool x349002_2]) ?_ 0 _ rfl; (with_reducible repeat (first | refine blk_drewN ?_ _ | refine blk_drew ?_ | refine blk_alloc ?_ _)); exact BK348.out) hb); have n1_ := Aside0.mk (blk_below (g := gb363) (o := .cells #[.int .i64 t359, .int .i64 t360, .bool t361] 32 (0, 0)) (by (with_reducible repeat (first | refine blk_drewN ?_ _ | refine blk_drew ?_ | refine blk_alloc ?_ _)); refine blk_far ?_ NB363_348.out _; (with_reducible repeat (first | refine blk_drewN ?_ _ | refine blk_drew ?_ | refine blk_alloc ?_ _)); refine blk_far ?_ NB363_348.out _; (with_reducible repeat (first | refine blk_drewN ?_ _ | refine blk_drew ?_ | refine blk_alloc ?_ _)); refine blk_far ?_ NB363_348.out _; (with_reducible repeat (first | refine blk_drewN ?_ _ | refine blk_drew ?_ | refine blk_alloc ?_ _)); exact BK363.out) hb); have n2_ := Aside0.mk (below_step (by repeat (first | (with_reducible first | exact HB.out | apply below_alloc | apply pw_below_drewN | apply below_drew1 | refine below_set ?_ GE348.out | refine below_set ?_ GE363.out) | exact HB.out)) hb); clear BK348; clear BK363; clear HB; have BK348 := n0_; have BK363 := n1_; have HB := n2_; clear n0_ n1_ n2_; (try clear hb); (try clear hb2); (try clear hk); (try clear hi)))
                                      go_roundg kj35
                                      case measure => have := HK1.out; have := HK2.out; have := HJ25.out; have := HJ35.out; omega
                                      case rel => exact ⟨(true), (wrap64 (x11_2 + 1)), (t359), (t360), (t361), (by first | rfl | (simp; done) | (simp [*]; done)), (by first | rfl | (simp; done) | (simp [*]; done)), H', ⟨by have := HK1.out; have := HK2.out; have := HJ25.out; have := HJ35.out; omega⟩, ⟨by (with_reducible repeat (first | refine blk_drewN ?_ _ | refine blk_drew ?_ | refine blk_alloc ?_ _)); exact BK348.out⟩, ⟨by repeat (first | (with_reducible first | exact HB.out | apply below_alloc | apply pw_below_drewN | apply below_drew1 | refine below_set ?_ GE348.out | refine below_set ?_ GE363.out) | exact HB.out)⟩⟩
                                  · replace c46 := Bool.eq_false_iff.mpr c46
                                    subst c46
                                    have H1 : (if ((t365 == 0) != (t360 == 0)) = true then (none) else (catchmentlaw07_VlockSaw.l1 kj35 y344 t354 false (wrap64 (x11_2 + 1)) t359 t360 t361)) = some r := by rw [if_neg (show ¬ (false = true) by decide)] at H; exact H
                                    clear H
                                    have H := H1
                                    clear H1
                                    by_cases c52 : ((t365 == 0) != (t360 == 0)) = true
                                    · rw [if_pos c52] at H
                                      exact absurd H (by simp)
                                    · rw [if_neg c52] at H
                                      have c52b0 : ((t365 == 0) != (t360 == 0)) = false := by simpa using c52
                                      (try (have c52b1 : decide ((t365 == 0) = (t360 == 0)) = true := by simpa using c52))
                                      (try (have c52b2 : ((t365 == 0) == (t360 == 0)) = true := by simpa using c52))
                                      clear c52
                                      have H' := Aside0.mk H
                                      clear H
                                      have hnb53 := NB363_348.out
                                      have hnc53 := NB348_363.out
                                      have hcz54_0 : wc.cell? ⟨gb363, 0, none⟩ = some (.int .i64 t359) := (blk_cell BK363.out 0).trans rfl
                                      have hcz54_1 : wc.cell? ⟨gb363, 1, none⟩ = some (.int .i64 t360) := (blk_cell BK363.out 1).trans rfl
                                      have hcz54_2 : wc.cell? ⟨gb363, 2, none⟩ = some (.bool t361) := (blk_cell BK363.out 2).trans rfl
                                      have hfz54_0 := blk_frozen BK363.out 0
                                      have hfz54_1 := blk_frozen BK363.out 1
                                      have hfz54_2 := blk_frozen BK363.out 2
                                      have hcz55_0 : wc.cell? ⟨gb348, 0, none⟩ = some (.int .i64 x349000_2) := (blk_cell BK348.out 0).trans rfl
                                      have hcz55_1 : wc.cell? ⟨gb348, 1, none⟩ = some (.int .i64 x349001_2) := (blk_cell BK348.out 1).trans rfl
                                      have hcz55_2 : wc.cell? ⟨gb348, 2, none⟩ = some (.bool x349002_2) := (blk_cell BK348.out 2).trans rfl
                                      have hfz55_0 := blk_frozen BK348.out 0
                                      have hfz55_1 := blk_frozen BK348.out 1
                                      have hfz55_2 := blk_frozen BK348.out 2
                                      go_wp2_with (first | ((with_reducible refine gate_callee (f := 24) rfl ?_); refine goesL_ (some 101) rfl rfl Try.func24 (by kernel_rfl) rfl #[.agg #[.int .i64 t359, .int .i64 t360, .bool t361], .int .i64 t354] rfl (by (try simp only [List.map_toArray, List.map_cons, List.map_nil]); first | done | rfl | (simp only [List.length_drop, List.length_take]; rfl)) ?_; (with_reducible refine (vlock_Valid.calls t359 t360 t361 t354 t365 _ A45.out).mono ?_); rintro e w56 ⟨rfl, hb⟩; refine ⟨_, rfl, ?_⟩; have n0_ := Aside0.mk (blk_below (g := gb348) (o := .cells #[.int .i64 t359, .int .i64 t360, .bool t361] 32 (0, 0)) (by (with_reducible repeat (first | refine blk_drewN ?_ _ | refine blk_drew ?_ | refine blk_alloc ?_ _)); refine blk_put (cs := #[.int .i64 t359, .int .i64 t360, .bool x349002_2]) ?_ 2 _ rfl; (with_reducible repeat (first | refine blk_drewN ?_ _ | refine blk_drew ?_ | refine blk_alloc ?_ _)); refine blk_put (cs := #[.int .i64 t359, .int .i64 x349001_2, .bool x349002_2]) ?_ 1 _ rfl; (with_reducible repeat (first | refine blk_drewN ?_ _ | refine blk_drew ?_ | refine blk_alloc ?_ _)); refine blk_put (cs := #[.int .i64 x349000_2, .int .i64 x349001_2, .bool x349002_2]) ?_ 0 _ rfl; (with_reducible repeat (first | refine blk_drewN ?_ _ | refine blk_drew ?_ | refine blk_alloc ?_ _)); exact BK348.out) hb); have n1_ := Aside0.mk (blk_below (g := gb363) (o := .cells #[.int .i64 t359, .int .i64 t360, .bool t361] 32 (0, 0)) (by (with_reducible repeat (first | refine blk_drewN ?_ _ | refine blk_drew ?_ | refine blk_alloc ?_ _)); refine blk_far ?_ NB363_348.out _; (with_reducible repeat (first | refine blk_drewN ?_ _ | refine blk_drew ?_ | refine blk_alloc ?_ _)); refine blk_far ?_ NB363_348.out _; (with_reducible repeat (first | refine blk_drewN ?_ _ | refine blk_drew ?_ | refine blk_alloc ?_ _)); refine blk_far ?_ NB363_348.out _; (with_reducible repeat (first | refine blk_drewN ?_ _ | refine blk_drew ?_ | refine blk_alloc ?_ _)); exact BK363.out) hb); have n2_ := Aside0.mk (below_step (by repeat (first | (with_reducible first | exact HB.out | apply below_alloc | apply pw_below_drewN | apply below_drew1 | refine below_set ?_ GE348.out | refine below_set ?_ GE363.out) | exact HB.out)) hb); clear BK348; clear BK363; clear HB; have BK348 := n0_; have BK363 := n1_; have HB := n2_; clear n0_ n1_ n2_; (try clear hb); (try clear hb2); (try clear hk); (try clear hi); have hcz57_0 : w56.cell? ⟨gb348, 0, none⟩ = some (.int .i64 t359) := (blk_cell BK348.out 0).trans rfl; have hcz57_1 : w56.cell? ⟨gb348, 1, none⟩ = some (.int .i64 t360) := (blk_cell BK348.out 1).trans rfl; have hcz57_2 : w56.cell? ⟨gb348, 2, none⟩ = some (.bool t361) := (blk_cell BK348.out 2).trans rfl; have hfz57_0 := blk_frozen BK348.out 0; have hfz57_1 := blk_frozen BK348.out 1; have hfz57_2 := blk_frozen BK348.out 2))
                                      go_roundg kj35
                                      case measure => have := HK1.out; have := HK2.out; have := HJ25.out; have := HJ35.out; omega
                                      case rel => exact ⟨(false), (wrap64 (x11_2 + 1)), (t359), (t360), (t361), (by first | rfl | (simp; done) | (simp [*]; done)), (by first | rfl | (simp; done) | (simp [*]; done)), H', ⟨by have := HK1.out; have := HK2.out; have := HJ25.out; have := HJ35.out; omega⟩, ⟨by (with_reducible repeat (first | refine blk_drewN ?_ _ | refine blk_drew ?_ | refine blk_alloc ?_ _)); exact BK348.out⟩, ⟨by repeat (first | (with_reducible first | exact HB.out | apply below_alloc | apply pw_below_drewN | apply below_drew1 | refine below_set ?_ GE348.out | refine below_set ?_ GE363.out) | exact HB.out)⟩⟩
                      · rw [if_neg c24] at H
                        exact absurd H (by simp)
                    · rw [if_neg c23] at H
                      have c23b0 : decide (x11_2 < (y344.length : Int)) = false := decide_eq_false c23
                      clear c23
                      replace H := Option.bind_eq_some_iff.mp H
                      obtain ⟨t357, A580, H⟩ := H
                      replace H : (some t357) = some r := H
                      have A58 := Aside0.mk A580
                      clear A580
                      obtain rfl := Option.some.inj H
                      go_wp2_with (first | ((with_reducible refine gate_callee (f := 23) rfl ?_); refine goesL_ (some 111) rfl rfl Try.func23 (by kernel_rfl) rfl #[] rfl (by (try simp only [List.map_toArray, List.map_cons, List.map_nil]); first | done | rfl | (simp only [List.length_drop, List.length_take]; rfl)) ?_; (with_reducible refine (catchmentlaw07_live.calls k2  t357 _ A58.out).mono ?_); rintro e w59 ⟨rfl, hb⟩; refine ⟨_, rfl, ?_⟩; have n0_ := Aside0.mk (blk_below (g := gb348) (o := .cells #[.int .i64 x349000_2, .int .i64 x349001_2, .bool x349002_2] 32 (0, 0)) (by (with_reducible repeat (first | refine blk_drewN ?_ _ | refine blk_drew ?_ | refine blk_alloc ?_ _)); exact BK348.out) hb); have n1_ := Aside0.mk (below_step (by repeat (first | (with_reducible first | exact HB.out | apply below_alloc | apply pw_below_drewN | apply below_drew1 | refine below_set ?_ GE348.out) | exact HB.out)) hb); clear BK348; clear HB; have BK348 := n0_; have HB := n1_; clear n0_ n1_; (try clear hb); (try clear hb2); (try clear hk); (try clear hi)))
                      go_ret
                      exact ⟨by first | rfl | (simp [errW_none, errW_some] <;> rfl) | (simp only [← hji3]; first | rfl | (simp [errW_none, errW_some] <;> rfl)) | (simp [*, errW_none, errW_some] <;> rfl), by repeat (first | (with_reducible first | exact HB.out | apply below_alloc | apply pw_below_drewN | apply below_drew1 | refine below_set ?_ GE348.out) | exact HB.out)⟩
              · rw [if_neg c20] at H
                have c20b0 : (t355 == 0) = false := beq_eq_false_iff_ne.mpr c20
                have c20b1 : (t355 != 0) = true := bne_iff_ne.mpr c20
                replace H := Option.bind_eq_some_iff.mp H
                obtain ⟨t356, A600, H⟩ := H
                replace H : (if t356 = true then (if x349002_1 = true then (some true) else (some (x349001_1 != 0))) else (none)) = some r := H
                have A60 := Aside0.mk A600
                clear A600
                by_cases c61 : t356 = true
                · subst c61
                  have H1 : (if x349002_1 = true then (some true) else (some (x349001_1 != 0))) = some r := by rw [if_pos rfl] at H; exact H
                  clear H
                  have H := H1
                  clear H1
                  by_cases c62 : x349002_1 = true
                  · subst c62
                    have H1 : (some true) = some r := by rw [if_pos rfl] at H; exact H
                    clear H
                    have H := H1
                    clear H1
                    obtain rfl := Option.some.inj H
                    have hcz63_0 : wr.cell? ⟨gb348, 0, none⟩ = some (.int .i64 x349000_1) := (blk_cell BK348.out 0).trans rfl
                    have hcz63_1 : wr.cell? ⟨gb348, 1, none⟩ = some (.int .i64 x349001_1) := (blk_cell BK348.out 1).trans rfl
                    have hcz63_2 : wr.cell? ⟨gb348, 2, none⟩ = some (.bool true) := (blk_cell BK348.out 2).trans rfl
                    have hfz63_0 := blk_frozen BK348.out 0
                    have hfz63_1 := blk_frozen BK348.out 1
                    have hfz63_2 := blk_frozen BK348.out 2
                    go_wp2_with (first | ((with_reducible refine gate_callee (f := 21) rfl ?_); refine goesL_ (some 42) rfl rfl Try.func21 (by kernel_rfl) rfl #[.agg #[.int .i64 x349000_1, .int .i64 x349001_1, .bool true]] rfl (by (try simp only [List.map_toArray, List.map_cons, List.map_nil]); first | done | rfl | (simp only [List.length_drop, List.length_take]; rfl)) ?_; (with_reducible refine (vlock_Begin.calls x349000_1 x349001_1 true t354 t355 _ A19.out).mono ?_); rintro e w64 ⟨rfl, hb⟩; refine ⟨_, rfl, ?_⟩; have n0_ := Aside0.mk (blk_below (g := gb348) (o := .cells #[.int .i64 x349000_1, .int .i64 x349001_1, .bool true] 32 (0, 0)) (by (with_reducible repeat (first | refine blk_drewN ?_ _ | refine blk_drew ?_ | refine blk_alloc ?_ _)); exact BK348.out) hb); have n1_ := Aside0.mk (below_step (by repeat (first | (with_reducible first | exact HB.out | apply below_alloc | apply pw_below_drewN | apply below_drew1 | refine below_set ?_ GE348.out) | exact HB.out)) hb); clear BK348; clear HB; have BK348 := n0_; have HB := n1_; clear n0_ n1_; (try clear hb); (try clear hb2); (try clear hk); (try clear hi)) | ((with_reducible refine gate_callee (f := 23) rfl ?_); refine goesL_ (some 47) rfl rfl Try.func23 (by kernel_rfl) rfl #[] rfl (by (try simp only [List.map_toArray, List.map_cons, List.map_nil]); first | done | rfl | (simp only [List.length_drop, List.length_take]; rfl)) ?_; (with_reducible refine (catchmentlaw07_live.calls k1  true _ A60.out).mono ?_); rintro e w65 ⟨rfl, hb⟩; refine ⟨_, rfl, ?_⟩; have n0_ := Aside0.mk (blk_below (g := gb348) (o := .cells #[.int .i64 x349000_1, .int .i64 x349001_1, .bool true] 32 (0, 0)) (by (with_reducible repeat (first | refine blk_drewN ?_ _ | refine blk_drew ?_ | refine blk_alloc ?_ _)); exact BK348.out) hb); have n1_ := Aside0.mk (below_step (by repeat (first | (with_reducible first | exact HB.out | apply below_alloc | apply pw_below_drewN | apply below_drew1 | refine below_set ?_ GE348.out) | exact HB.out)) hb); clear BK348; clear HB; have BK348 := n0_; have HB := n1_; clear n0_ n1_; (try clear hb); (try clear hb2); (try clear hk); (try clear hi); have hcz66_0 : w65.cell? ⟨gb348, 0, none⟩ = some (.int .i64 x349000_1) := (blk_cell BK348.out 0).trans rfl; have hcz66_1 : w65.cell? ⟨gb348, 1, none⟩ = some (.int .i64 x349001_1) := (blk_cell BK348.out 1).trans rfl; have hcz66_2 : w65.cell? ⟨gb348, 2, none⟩ = some (.bool true) := (blk_cell BK348.out 2).trans rfl; have hfz66_0 := blk_frozen BK348.out 0; have hfz66_1 := blk_frozen BK348.out 1; have hfz66_2 := blk_frozen BK348.out 2))
                    go_ret
                    exact ⟨by first | rfl | (simp [errW_none, errW_some] <;> rfl) | (simp only [← hji3]; first | rfl | (simp [errW_none, errW_some] <;> rfl)) | (simp [*, errW_none, errW_some] <;> rfl), by repeat (first | (with_reducible first | exact HB.out | apply below_alloc | apply pw_below_drewN | apply below_drew1 | refine below_set ?_ GE348.out) | exact HB.out)⟩
                  · replace c62 := Bool.eq_false_iff.mpr c62
                    subst c62
                    have H1 : (some (x349001_1 != 0)) = some r := by rw [if_neg (show ¬ (false = true) by decide)] at H; exact H
                    clear H
                    have H := H1
                    clear H1
                    obtain rfl := Option.some.inj H
                    have hcz67_0 : wr.cell? ⟨gb348, 0, none⟩ = some (.int .i64 x349000_1) := (blk_cell BK348.out 0).trans rfl
                    have hcz67_1 : wr.cell? ⟨gb348, 1, none⟩ = some (.int .i64 x349001_1) := (blk_cell BK348.out 1).trans rfl
                    have hcz67_2 : wr.cell? ⟨gb348, 2, none⟩ = some (.bool false) := (blk_cell BK348.out 2).trans rfl
                    have hfz67_0 := blk_frozen BK348.out 0
                    have hfz67_1 := blk_frozen BK348.out 1
                    have hfz67_2 := blk_frozen BK348.out 2
                    go_wp2_with (first | ((with_reducible refine gate_callee (f := 21) rfl ?_); refine goesL_ (some 42) rfl rfl Try.func21 (by kernel_rfl) rfl #[.agg #[.int .i64 x349000_1, .int .i64 x349001_1, .bool false]] rfl (by (try simp only [List.map_toArray, List.map_cons, List.map_nil]); first | done | rfl | (simp only [List.length_drop, List.length_take]; rfl)) ?_; (with_reducible refine (vlock_Begin.calls x349000_1 x349001_1 false t354 t355 _ A19.out).mono ?_); rintro e w68 ⟨rfl, hb⟩; refine ⟨_, rfl, ?_⟩; have n0_ := Aside0.mk (blk_below (g := gb348) (o := .cells #[.int .i64 x349000_1, .int .i64 x349001_1, .bool false] 32 (0, 0)) (by (with_reducible repeat (first | refine blk_drewN ?_ _ | refine blk_drew ?_ | refine blk_alloc ?_ _)); exact BK348.out) hb); have n1_ := Aside0.mk (below_step (by repeat (first | (with_reducible first | exact HB.out | apply below_alloc | apply pw_below_drewN | apply below_drew1 | refine below_set ?_ GE348.out) | exact HB.out)) hb); clear BK348; clear HB; have BK348 := n0_; have HB := n1_; clear n0_ n1_; (try clear hb); (try clear hb2); (try clear hk); (try clear hi)) | ((with_reducible refine gate_callee (f := 23) rfl ?_); refine goesL_ (some 47) rfl rfl Try.func23 (by kernel_rfl) rfl #[] rfl (by (try simp only [List.map_toArray, List.map_cons, List.map_nil]); first | done | rfl | (simp only [List.length_drop, List.length_take]; rfl)) ?_; (with_reducible refine (catchmentlaw07_live.calls k1  true _ A60.out).mono ?_); rintro e w69 ⟨rfl, hb⟩; refine ⟨_, rfl, ?_⟩; have n0_ := Aside0.mk (blk_below (g := gb348) (o := .cells #[.int .i64 x349000_1, .int .i64 x349001_1, .bool false] 32 (0, 0)) (by (with_reducible repeat (first | refine blk_drewN ?_ _ | refine blk_drew ?_ | refine blk_alloc ?_ _)); exact BK348.out) hb); have n1_ := Aside0.mk (below_step (by repeat (first | (with_reducible first | exact HB.out | apply below_alloc | apply pw_below_drewN | apply below_drew1 | refine below_set ?_ GE348.out) | exact HB.out)) hb); clear BK348; clear HB; have BK348 := n0_; have HB := n1_; clear n0_ n1_; (try clear hb); (try clear hb2); (try clear hk); (try clear hi); have hcz70_0 : w69.cell? ⟨gb348, 0, none⟩ = some (.int .i64 x349000_1) := (blk_cell BK348.out 0).trans rfl; have hcz70_1 : w69.cell? ⟨gb348, 1, none⟩ = some (.int .i64 x349001_1) := (blk_cell BK348.out 1).trans rfl; have hcz70_2 : w69.cell? ⟨gb348, 2, none⟩ = some (.bool false) := (blk_cell BK348.out 2).trans rfl; have hfz70_0 := blk_frozen BK348.out 0; have hfz70_1 := blk_frozen BK348.out 1; have hfz70_2 := blk_frozen BK348.out 2))
                    go_ret
                    exact ⟨by first | rfl | (simp [errW_none, errW_some] <;> rfl) | (simp only [← hji3]; first | rfl | (simp [errW_none, errW_some] <;> rfl)) | (simp [*, errW_none, errW_some] <;> rfl), by repeat (first | (with_reducible first | exact HB.out | apply below_alloc | apply pw_below_drewN | apply below_drew1 | refine below_set ?_ GE348.out) | exact HB.out)⟩
                · replace c61 := Bool.eq_false_iff.mpr c61
                  subst c61
                  have H1 : (none) = some r := by rw [if_neg (show ¬ (false = true) by decide)] at H; exact H
                  clear H
                  have H := H1
                  clear H1
                  exact absurd H (by simp)
    · rw [if_neg c5] at H
      exact absurd H (by simp)
  · rw [if_neg c4] at H
    exact absurd H (by simp)
def ok57 (y : S57) : Prop := (fun x : Int => (Lit.int .i64 x).wf = true) y.f0 ∧ (fun x : Int => (Lit.int .i64 x).wf = true) y.f1
/-- THE ONE PURE STATEMENT of catchmentlaw07_VlockSaw. -/
def catchmentlaw07_VlockSaw.Pure : Prop := ∀ (l0 : List (S57)) (a1 : Int), (fun xs : List (S57) => xs.length ≤ maxLen ∧ xs.length * 16 ≤ 140737488351232 ∧ ∀ x ∈ xs, ok57 x) l0 → (fun x : Int => (Lit.int .u8 x).wf = true) a1 → ∃ k, catchmentlaw07_VlockSaw.f k l0 a1 = some true
theorem catchmentlaw07_VlockSaw.walk (P : catchmentlaw07_VlockSaw.Pure) (A0 : Option Addr) (c0 : Nat) (l0 : List (S57)) (a1 : Int) (w : World) (hr0 : Kd.C k57 w A0 l0.length l0) (hc0 : l0.length ≤ c0) (ok_0 : (fun xs : List (S57) => xs.length ≤ maxLen ∧ xs.length * 16 ≤ 140737488351232 ∧ ∀ x ∈ xs, ok57 x) l0) (ok_1 : (fun x : Int => (Lit.int .u8 x).wf = true) a1) :
    Calls Try.prog 10 #[.slice A0 l0.length c0, .int .u8 a1] w fun e w' => e = .returned (.bool true) ∧ Below w.heap.size w w' := by
  obtain ⟨k, h⟩ := P l0 a1 ok_0 ok_1
  refine (catchmentlaw07_VlockSaw.calls k A0 c0 l0 a1 true w hr0 hc0 h).mono ?_
  rintro e w' ⟨rfl, hd⟩
  exact ⟨rfl, hd⟩

end Go.Proofs.Ytdlhiadekgnieaa.Q1
