-- written by a program of this session (wip/myprint.py), over the kit's printer and the session's own contracts
import Derived.Test.YtnklnjghecmihaaH6x0
import Derived.Test.YtnklnjghecmihaaH6x30
import Derived.Test.YtnklnjghecmihaaH6x33
import Derived.Test.YtnklnjghecmihaaH6P0
import Derived.Test.YtnklnjghecmihaaH6x36
namespace Go.Proofs.Ytnklnjghecmihaa.H6
open Go.RowKit Go.Proofs.YtnklnjghecmihaaW.PrintWords Go.Proofs.YtnklnjghecmihaaW.PrintLast Go.Proofs.YtnklnjghecmihaaW.PrintMore Go.Proofs.YtnklnjghecmihaaW.Mine
attribute [local go_sem] max2_int min2_int max_two min_two max_three min_three max_four min_four max2_str min2_str binOp_gtr_str binOp_leq_str binOp_geq_str   -- for this text's walks alone
set_option linter.unusedVariables false
set_option linter.unusedSimpArgs false

/-! ### catchmentref10_Pack: function 20 -/
mutual
def catchmentref10_Pack.l0 : Nat → List (S25) → ByteArray → Int → Option (ByteArray)
  | 0, _, _, _ => none
  | k + 1, x0, x3, x4 => if x4 < (x0.length : Int) then (if x4 > 0 then (if 0 ≤ (wrap64 (x4 - 1)) then (if (wrap64 (x4 - 1)) < (x0.length : Int) then (if 0 ≤ x4 then ((catchmentref10_shared.f k ((rd_T25 x0 (wrap64 (x4 - 1))).f0) ((rd_T25 x0 x4).f0)).bind fun t198 => (catchmentref10_Pack.j1 k x0 x3 x4 t198)) else (none)) else (none)) else (none)) else (catchmentref10_Pack.j1 k x0 x3 x4 0)) else (some x3)
def catchmentref10_Pack.j1 : Nat → List (S25) → ByteArray → Int → Int → Option (ByteArray)
  | 0, _, _, _, _ => none
  | k + 1, x0, x3, x4, x5 => (catchmentref03_Num.f k x5).bind fun t199 => (if x3.size + t199.size ≤ 9223372036854775807 then (if 0 ≤ x4 then (if x4 < (x0.length : Int) then (if 0 ≤ x5 then (if x5 ≤ (((rd_T25 x0 x4).f0).size : Int) then ((catchmentref03_Texts.f k (([((rd_T25 x0 x4).f0).extract (x5 : Int).toNat ((rd_T25 x0 x4).f0).size, (rd_T25 x0 x4).f1] : List ByteArray))).bind fun t205 => (if (x3 ++ t199).size + t205.size ≤ 9223372036854775807 then (catchmentref10_Pack.l0 k x0 ((x3 ++ t199) ++ t205) (wrap64 (x4 + 1))) else (none))) else (none)) else (none)) else (none)) else (none)) else (none))
end
def catchmentref10_Pack.f (k : Nat) (l0 : List (S25)) : Option (ByteArray) := (catchmentref05_Rises.f k l0).bind fun t194 => (if t194 = true then ((catchmentref03_Num.f k (l0.length : Int)).bind fun t195 => (catchmentref10_Pack.l0 k l0 t195 0)) else (some (⟨#[]⟩ : ByteArray)))
theorem catchmentref10_Pack.mono_l : ∀ k, (∀ y0 y1 y2, LeO (catchmentref10_Pack.l0 k y0 y1 y2) (catchmentref10_Pack.l0 (k + 1) y0 y1 y2)) ∧ (∀ y0 y1 y2 y3, LeO (catchmentref10_Pack.j1 k y0 y1 y2 y3) (catchmentref10_Pack.j1 (k + 1) y0 y1 y2 y3))
  | 0 => ⟨fun _ _ _ r h => by simp [catchmentref10_Pack.l0] at h, fun _ _ _ _ r h => by simp [catchmentref10_Pack.j1] at h⟩
  | k + 1 => by
    obtain ⟨ih0, ih1⟩ := catchmentref10_Pack.mono_l k
    refine ⟨?_, ?_⟩
    · intro y0 y1 y2
      unfold catchmentref10_Pack.l0
      repeat' first
      | (with_reducible exact ih0 _ _ _)
      | (with_reducible exact ih1 _ _ _ _)
      | (with_reducible exact catchmentref03_Num.mono _ _)
      | (with_reducible exact catchmentref03_Texts.mono _ _)
      | (with_reducible exact catchmentref05_Rises.mono _ _)
      | (with_reducible exact catchmentref10_shared.mono _ _ _)
      | (with_reducible exact LeO.refl _)
      | (with_reducible exact LeO.none _)
      | (with_reducible refine LeO.ite ?_ ?_)
      | (with_reducible refine LeO.bind ?_ (fun _ => ?_))
      | exact ih0 _ _ _
      | exact ih1 _ _ _ _
      | exact catchmentref03_Num.mono _ _
      | exact catchmentref03_Texts.mono _ _
      | exact catchmentref05_Rises.mono _ _
      | exact catchmentref10_shared.mono _ _ _
      | exact LeO.none _
      | refine LeO.ite ?_ ?_
      | refine LeO.bind ?_ (fun _ => ?_)
    · intro y0 y1 y2 y3
      unfold catchmentref10_Pack.j1
      repeat' first
      | (with_reducible exact ih0 _ _ _)
      | (with_reducible exact ih1 _ _ _ _)
      | (with_reducible exact catchmentref03_Num.mono _ _)
      | (with_reducible exact catchmentref03_Texts.mono _ _)
      | (with_reducible exact catchmentref05_Rises.mono _ _)
      | (with_reducible exact catchmentref10_shared.mono _ _ _)
      | (with_reducible exact LeO.refl _)
      | (with_reducible exact LeO.none _)
      | (with_reducible refine LeO.ite ?_ ?_)
      | (with_reducible refine LeO.bind ?_ (fun _ => ?_))
      | exact ih0 _ _ _
      | exact ih1 _ _ _ _
      | exact catchmentref03_Num.mono _ _
      | exact catchmentref03_Texts.mono _ _
      | exact catchmentref05_Rises.mono _ _
      | exact catchmentref10_shared.mono _ _ _
      | exact LeO.none _
      | refine LeO.ite ?_ ?_
      | refine LeO.bind ?_ (fun _ => ?_)
theorem catchmentref10_Pack.mono : ∀ a0 k, LeO (catchmentref10_Pack.f k a0) (catchmentref10_Pack.f (k + 1) a0) := by
  (intro a0 k); (obtain ⟨ih0, ih1⟩ := catchmentref10_Pack.mono_l k); (unfold catchmentref10_Pack.f)
  repeat' first
      | (with_reducible exact ih0 _ _ _)
      | (with_reducible exact ih1 _ _ _ _)
      | (with_reducible exact catchmentref03_Num.mono _ _)
      | (with_reducible exact catchmentref03_Texts.mono _ _)
      | (with_reducible exact catchmentref05_Rises.mono _ _)
      | (with_reducible exact catchmentref10_shared.mono _ _ _)
      | (with_reducible exact LeO.refl _)
      | (with_reducible exact LeO.none _)
      | (with_reducible refine LeO.ite ?_ ?_)
      | (with_reducible refine LeO.bind ?_ (fun _ => ?_))
      | exact ih0 _ _ _
      | exact ih1 _ _ _ _
      | exact catchmentref03_Num.mono _ _
      | exact catchmentref03_Texts.mono _ _
      | exact catchmentref05_Rises.mono _ _
      | exact catchmentref10_shared.mono _ _ _
      | exact LeO.none _
      | refine LeO.ite ?_ ?_
      | refine LeO.bind ?_ (fun _ => ?_)
def catchmentref10_Pack.T9 : Bool × List (List Nat × List Nat) := (true, [([], []), ([], []), ([1], [1]), ([0, 2], [0, 2]), ([3], [3]), ([4], [4]), ([], []), ([], []), ([6, 7], [6, 7]), ([8], [8]), ([9], [9]), ([5, 10], [5, 10]), ([11, 11, 0, 1, 2, 3, 4, 5, 6, 7, 8, 9, 10, 11], [11])])
def catchmentref10_Pack.B9 : List Nat := [0, 0, 2, 7, 15, 31, 0, 0, 192, 448, 960, 2047, 4095]
theorem catchmentref10_Pack.tab9 : rtab .any (opsOf Try.f20 9) = catchmentref10_Pack.T9 := by kernel_rfl
theorem catchmentref10_Pack.bits9 : waitsOk catchmentref10_Pack.T9.2 catchmentref10_Pack.B9 = true := by kernel_rfl
def catchmentref10_Pack.T10 : Bool × List (List Nat × List Nat) := (true, [([], []), ([], []), ([1], [1]), ([0, 2], [0, 2]), ([], []), ([], []), ([4, 5], [4, 5]), ([6], [6]), ([7], [7]), ([], []), ([8, 9], [8, 9]), ([], []), ([], []), ([11, 12], [11, 12]), ([13], [13]), ([14], [14]), ([10, 15], [10, 15]), ([16, 2], [16]), ([3, 17], [3, 17]), ([18, 17, 0, 1, 2, 3, 4, 5, 6, 7, 8, 9, 10, 11, 12, 13, 14, 15, 16, 17, 18], [0, 18])])
def catchmentref10_Pack.B10 : List Nat := [0, 0, 2, 7, 0, 0, 48, 112, 240, 0, 1008, 0, 0, 6144, 14336, 30720, 65520, 131062, 262143, 524287]
theorem catchmentref10_Pack.tab10 : rtab .any (opsOf Try.f20 10) = catchmentref10_Pack.T10 := by kernel_rfl
theorem catchmentref10_Pack.bits10 : waitsOk catchmentref10_Pack.T10.2 catchmentref10_Pack.B10 = true := by kernel_rfl
set_option maxHeartbeats 8000000 in
set_option maxRecDepth 100000 in
theorem catchmentref10_Pack.calls (k : Nat) (A0 : Option Addr) (c0 : Nat) (l0 : List (S25)) (r : ByteArray) (w : World) (hr0 : Kd.C k25 w A0 l0.length l0) (hc0 : l0.length ≤ c0) (h : catchmentref10_Pack.f k l0 = some r) :
    Calls Try.prog 20 #[.slice A0 l0.length c0] w fun e w' => e = .returned (.string r) ∧ Below w.heap.size w w' := by
  (have HR0 := Aside0.mk hr0); (have HC0 := Aside0.mk hc0); (clear hr0 hc0); (have HB := Aside0.mk (Below.refl w.heap.size w)); (have H : ((catchmentref05_Rises.f k l0).bind fun t194 => (if t194 = true then ((catchmentref03_Num.f k (l0.length : Int)).bind fun t195 => (catchmentref10_Pack.l0 k l0 t195 0)) else (some (⟨#[]⟩ : ByteArray)))) = some r := h); (clear h); (replace H := Option.bind_eq_some_iff.mp H); (obtain ⟨t194, A20, H⟩ := H); (replace H : (if t194 = true then ((catchmentref03_Num.f k (l0.length : Int)).bind fun t195 => (catchmentref10_Pack.l0 k l0 t195 0)) else (some (⟨#[]⟩ : ByteArray))) = some r := H); (have A2 := Aside0.mk A20); (clear A20); (by_cases c3 : t194 = true)
  · subst c3
    (have H1 : ((catchmentref03_Num.f k (l0.length : Int)).bind fun t195 => (catchmentref10_Pack.l0 k l0 t195 0)) = some r := by rw [if_pos rfl] at H; exact H); (clear H); (have H := H1); (clear H1); (replace H := Option.bind_eq_some_iff.mp H); (obtain ⟨t195, A40, H⟩ := H); (replace H : (catchmentref10_Pack.l0 k l0 t195 0) = some r := H); (have A4 := Aside0.mk A40); (clear A40); (have H' := Aside0.mk H); (clear H); (go_enter Try.func20, Try.ntmps20)
    go_wp2_with (first | ((with_reducible refine gate_callee (f := 22) rfl ?_); refine goesL_ (some 7) rfl rfl Try.func22 (by kernel_rfl) rfl #[.slice A0 l0.length c0] rfl (by (try simp only [List.map_toArray, List.map_cons, List.map_nil]); first | done | rfl | (simp only [List.length_drop, List.length_take]; rfl)) ?_; (with_reducible refine (catchmentref05_Rises.calls k _ _ l0 true _ ?side1 ?side2 A2.out).mono ?_); (case side1 => repeat (first | exact HR0.out | (with_reducible refine Kd.C_alloc ?_ _) | (with_reducible refine Kd.C_drewN ?_ _) | (with_reducible refine Kd.C_drew ?_))); (case side2 => exact HC0.out); rintro e w' ⟨rfl, ⟨nd, rfl⟩⟩; refine ⟨_, rfl, ?_⟩) | ((with_reducible refine gate_callee (f := 85) rfl ?_); refine goesL_ (some 11) rfl rfl Try.func85 (by kernel_rfl) rfl #[.int .i64 (l0.length : Int)] rfl (by (try simp only [List.map_toArray, List.map_cons, List.map_nil]); first | done | rfl | (simp only [List.length_drop, List.length_take]; rfl)) ?_; (with_reducible refine (catchmentref03_Num.calls k (l0.length : Int) t195 _ A4.out).mono ?_); rintro e w5 ⟨rfl, hb⟩; refine ⟨_, rfl, ?_⟩; have n0_ := Aside0.mk (below_step (by repeat (first | (with_reducible first | exact HB.out | apply y1_ | apply y2_ | apply y3_) | exact HB.out)) hb); clear HB; have HB := n0_; clear n0_; (try clear hb); (try clear hb2); (try clear hk); (try clear hi)))
    (try simp only [Act.put, List.setIfInBounds_toArray, List.set_cons_zero, List.set_cons_succ])
    go_loopg [3, 4] k (fun kq v3 v4 w' => ∃ (x3_1 : ByteArray) (x4_1 : Int), v3 = .string x3_1 ∧ v4 = .int .i64 x4_1 ∧ Aside0 (catchmentref10_Pack.l0 kq l0 x3_1 x4_1 = some r) ∧ Aside0 (kq ≤ k) ∧ Aside0 (Below w.heap.size w w'))
    case atStart => exact ⟨(t195), (0), (by first | rfl | (simp; done) | (simp [*]; done)), (by first | rfl | (simp; done) | (simp [*]; done)), H', ⟨Nat.le_refl _⟩, ⟨by repeat (first | (with_reducible first | exact HB.out | apply y1_ | apply y2_ | apply y3_) | exact HB.out)⟩⟩
    case round =>
      (clear H'); (try clear c2); (try clear p2); (try clear c3); (obtain ⟨x3_1, x4_1, rfl, rfl, HA, HK1, HB⟩ := hrel)
      cases gk with
      | zero => exact absurd HA.out (by simp [catchmentref10_Pack.l0])
      | succ k1 =>
        (have H := HA.out); (clear HA); (simp only [catchmentref10_Pack.l0] at H); (by_cases c6 : x4_1 < (l0.length : Int))
        · rw [if_pos c6] at H
          (have c6b0 : decide (x4_1 < (l0.length : Int)) = true := decide_eq_true c6); (clear c6); (have HC7 := Aside0.mk H); (clear H); (go_upto_if 19 with (fail)); (go_cut [5] (fun v5 wc => ∃ (kq : Nat) (x5_6 : Int), v5 = .int .i64 x5_6 ∧ Aside0 (catchmentref10_Pack.j1 kq l0 x3_1 x4_1 x5_6 = some r) ∧ Aside0 (kq ≤ k1) ∧ Aside0 (Below w.heap.size w wc)))
          case first =>
            (have H := HC7.out); (clear HC7); (by_cases c8 : x4_1 > 0)
            · rw [if_pos c8] at H
              (have c8b0 : decide (0 < x4_1) = true := decide_eq_true c8); (clear c8); ((first | rw [c8b0] | (simp only [i64_w, i32_w]; rw [c8b0]) | skip)); (obtain ⟨ji9, hji9⟩ : ∃ j_ : Int, (wrap64 (x4_1 - 1)) = j_ := ⟨_, rfl⟩); (replace H : (if 0 ≤ (ji9) then (if (ji9) < (l0.length : Int) then (if 0 ≤ x4_1 then ((catchmentref10_shared.f k1 ((rd_T25 l0 (ji9)).f0) ((rd_T25 l0 x4_1).f0)).bind fun t198 => (catchmentref10_Pack.j1 k1 l0 x3_1 x4_1 t198)) else (none)) else (none)) else (none)) = some r := by first | (rw [hji9] at H; exact H) | (simp only [hji9] at H ⊢; exact H)); (have hji9w : (IntKind.i64.wrap (x4_1 - 1)) = ji9 := (i64_w _).trans hji9); (by_cases c10 : 0 ≤ (ji9))
              · rw [if_pos c10] at H
                (have c10b0 : decide (0 ≤ (ji9)) = true := decide_eq_true c10); (clear c10); (by_cases c11 : (ji9) < (l0.length : Int))
                · rw [if_pos c11] at H
                  (have c11b0 : decide ((ji9) < (l0.length : Int)) = true := decide_eq_true c11); (clear c11); (by_cases c12 : 0 ≤ x4_1)
                  · rw [if_pos c12] at H
                    (have c12b0 : decide (0 ≤ x4_1) = true := decide_eq_true c12); (clear c12); (replace H := Option.bind_eq_some_iff.mp H); (obtain ⟨t198, A130, H⟩ := H); (replace H : (catchmentref10_Pack.j1 k1 l0 x3_1 x4_1 t198) = some r := H); (have A13 := Aside0.mk A130); (clear A130); (have H' := Aside0.mk H); (clear H); (try go_wp2); (have n0_ := Aside0.mk (below_drew1 HB.out)); (clear HB); (have HB := n0_); (clear n0_); (have p196 : 0 ≤ ((ji9) : Int) := of_decide_eq_true (by first | (with_reducible assumption) | assumption)); (have q196 : (ji9) < (l0.length : Int) := of_decide_eq_true (by first | (with_reducible assumption) | assumption)); (obtain ⟨ad196, e196, hx196_0, hx196_1⟩ := at_T25 HR0.out (ji9) p196 q196); (have hw196_1 := hx196_1); (have hw196_0 := hx196_0); (cases e196); (replace hx196_0 := (HB.out.cell (World.block_lt_of_cell? w _ hx196_0)).trans hx196_0); (replace hx196_1 := (HB.out.cell (World.block_lt_of_cell? w _ hx196_1)).trans hx196_1); (replace p196 := eq_true p196); (replace q196 := eq_true q196); (have p197 : 0 ≤ (x4_1 : Int) := of_decide_eq_true (by first | (with_reducible assumption) | assumption))
                    (have q197 : x4_1 < (l0.length : Int) := of_decide_eq_true (by first | (with_reducible assumption) | assumption)); (obtain ⟨ad197, e197, hx197_0, hx197_1⟩ := at_T25 HR0.out x4_1 p197 q197); (have hw197_1 := hx197_1); (have hw197_0 := hx197_0); (obtain rfl : ad196 = ad197 := (by injection e197)); (replace hx197_0 := (HB.out.cell (World.block_lt_of_cell? w _ hx197_0)).trans hx197_0); (replace hx197_1 := (HB.out.cell (World.block_lt_of_cell? w _ hx197_1)).trans hx197_1); (replace p197 := eq_true p197); (replace q197 := eq_true q197)
                    (refine start_ (n := 13) (S := fun w' => w'.cell? (ad196.add (((ji9)).toNat * 2)) = some (.string ((rd_T25 l0 (ji9)).f0)) ∧ w'.cell? ⟨(ad196.add (((ji9)).toNat * 2)).block, (ad196.add (((ji9)).toNat * 2)).off + 1, none⟩ = some (.string ((rd_T25 l0 (ji9)).f1)) ∧ w'.cell? (ad196.add ((x4_1).toNat * 2)) = some (.string ((rd_T25 l0 x4_1).f0)) ∧ w'.cell? ⟨(ad196.add ((x4_1).toNat * 2)).block, (ad196.add ((x4_1).toNat * 2)).off + 1, none⟩ = some (.string ((rd_T25 l0 x4_1).f1))) (ds := []) #[false, false, false, false, false, false, false, false, false, false, false, false, false] (by kernel_rfl) rfl rfl ⟨((HB.out.cell (World.block_lt_of_cell? w _ hw196_0)).trans hw196_0), ((HB.out.cell (World.block_lt_of_cell? w _ hw196_1)).trans hw196_1), ((HB.out.cell (World.block_lt_of_cell? w _ hw197_0)).trans hw197_0), ((HB.out.cell (World.block_lt_of_cell? w _ hw197_1)).trans hw197_1)⟩ (fun hHeld => ?_); refine with_tabW catchmentref10_Pack.tab9 catchmentref10_Pack.bits9 (fun HT_ HW_ => ?_)); (generalize wr.drew = w14 at HB hx196_0 hx196_1 hx197_0 hx197_1 hHeld ⊢); (refine pu_ (i := 0) (N := some 20) (v := ?_) (a' := ?_) HT_.out rfl rfl (.inl ⟨by rfl, ?_⟩) ?_ ?_; rotate_left)
                    · intro w'; go_simp; with_reducible rfl
                    rotate_left
                    · simp only [pt_, pn_, sz_, ss_, i64_w, i32_w]; rfl
                    refine pu_ (i := 1) (N := some 21) (v := ?_) (a' := ?_) HT_.out rfl rfl (.inl ⟨by rfl, ?_⟩) ?_ ?_; rotate_left
                    · intro w'; go_simp; with_reducible rfl
                    rotate_left
                    · simp only [pt_, pn_, sz_, ss_, i64_w, i32_w]; rfl
                    refine pu_ (i := 2) (N := some 22) (v := ?_) (a' := ?_) HT_.out rfl rfl (.inl ⟨by rfl, ?_⟩) ?_ ?_; rotate_left
                    · intro w'; go_simp; with_reducible rfl
                    rotate_left
                    · simp only [pt_, pn_, sz_, ss_, i64_w, i32_w]; rfl
                    refine pu_ (i := 3) (N := some 23) (v := ?_) (a' := ?_) HT_.out rfl rfl (.inl ⟨by rfl, ?_⟩) ?_ ?_; rotate_left
                    · intro w'; go_simp; with_reducible rfl
                    rotate_left
                    · simp only [pt_, pn_, sz_, ss_, i64_w, i32_w]; rfl
                    refine pu_ (i := 4) (N := some 24) (v := ?_) (a' := ?_) HT_.out rfl rfl (.inl ⟨by rfl, ?_⟩) ?_ ?_; rotate_left
                    · intro w'; go_simp; with_reducible rfl
                    rotate_left
                    · simp only [pt_, pn_, sz_, ss_, i64_w, i32_w]; rfl
                    refine pu_ (i := 6) (N := some 26) (v := ?_) (a' := ?_) HT_.out rfl rfl (.inl ⟨by rfl, ?_⟩) ?_ ?_; rotate_left
                    · intro w'; go_simp; with_reducible rfl
                    rotate_left
                    · simp only [pt_, pn_, sz_, ss_, i64_w, i32_w]; rfl
                    refine pu_ (i := 7) (N := some 27) (v := ?_) (a' := ?_) HT_.out rfl rfl (.inl ⟨by rfl, ?_⟩) ?_ ?_; rotate_left
                    · intro w'; go_simp; with_reducible rfl
                    rotate_left
                    · simp only [pt_, pn_, sz_, ss_, i64_w, i32_w]; rfl
                    refine pu_ (i := 8) (N := some 28) (v := ?_) (a' := ?_) HT_.out rfl rfl (.inl ⟨by rfl, ?_⟩) ?_ ?_; rotate_left
                    · intro w'; go_simp; with_reducible rfl
                    rotate_left
                    · simp only [pt_, pn_, sz_, ss_, i64_w, i32_w]; rfl
                    refine pu_ (i := 9) (N := some 29) (v := ?_) (a' := ?_) HT_.out rfl rfl (.inl ⟨by rfl, ?_⟩) ?_ ?_; rotate_left
                    · intro w'; go_simp; with_reducible rfl
                    rotate_left
                    · simp only [pt_, pn_, sz_, ss_, i64_w, i32_w]; rfl
                    refine ta_ (i := 5) (N := some 25) (v := ?_) (a' := ?_) HT_.out HW_.out rfl rfl (.inl ⟨by rfl, ?_⟩) hHeld ?_ ?_; rotate_left
                    · rintro w' ⟨s0, s1, s2, s3⟩; go_simp; with_reducible rfl
                    rotate_left
                    · simp only [pt_, pn_, sz_, ss_, i64_w, i32_w]; rfl
                    refine ta_ (i := 10) (N := some 30) (v := ?_) (a' := ?_) HT_.out HW_.out rfl rfl (.inl ⟨by rfl, ?_⟩) hHeld ?_ ?_; rotate_left
                    · rintro w' ⟨s0, s1, s2, s3⟩; go_simp; with_reducible rfl
                    rotate_left
                    · simp only [pt_, pn_, sz_, ss_, i64_w, i32_w]; rfl
                    (refine one_ (i := 11) (N := some 31) #[true, true, true, true, true, true, true, true, true, true, true, true, false] rfl rfl (one_of HT_.out (by kernel_rfl)) (by decide) (fun K hK => ?_)); (refine goes_ Try.func78 (by kernel_rfl) rfl #[.string ((rd_T25 l0 (ji9)).f0), .string ((rd_T25 l0 x4_1).f0)] (by rfl) rfl rfl (by (try simp only [List.map_toArray, List.map_cons, List.map_nil]); first | done | (simp only [hji9]; rfl) | rfl | (simp only [List.length_drop, List.length_take]; rfl)) ?_); (with_reducible refine (catchmentref10_shared.calls k1 ((rd_T25 l0 (ji9)).f0) ((rd_T25 l0 x4_1).f0) t198 _ A13.out).mono ?_); (rintro e w' ⟨rfl, ⟨nd, rfl⟩⟩); (refine ⟨_, rfl, ?_⟩); (refine hK.out _ _ ⟨((HB.out.cell (World.block_lt_of_cell? w _ hw196_0)).trans hw196_0), ((HB.out.cell (World.block_lt_of_cell? w _ hw196_1)).trans hw196_1), ((HB.out.cell (World.block_lt_of_cell? w _ hw197_0)).trans hw197_0), ((HB.out.cell (World.block_lt_of_cell? w _ hw197_1)).trans hw197_1)⟩ (fun hHeld => ?_)); (clear hK K); (refine norm_ (a' := ?_) ?_ ?_)
                    rotate_left
                    · show Act.put _ (some 31) _ = _
                      (simp only [pt_, pn_, sz_, ss_, i64_w, i32_w]); (rfl)
                    refine pu_ (i := 12) (N := some 5) (v := ?_) (a' := ?_) HT_.out rfl rfl (.inl ⟨by rfl, ?_⟩) ?_ ?_; rotate_left
                    · intro w'; go_simp; with_reducible rfl
                    rotate_left
                    · simp only [pt_, pn_, sz_, ss_, i64_w, i32_w]; rfl
                    (refine done_ (done_of HT_.out (by kernel_rfl)) ?_); (try go_wp2); (go_meet)
                    case rel => exact ⟨_, (t198), (by first | rfl | (simp; done) | (simp [*]; done)), H', ⟨by have := HK1.out; first | omega | exact Nat.le_refl _⟩, ⟨by repeat (first | (with_reducible first | exact HB.out | apply y1_ | apply y2_ | apply y3_) | exact HB.out)⟩⟩
                  · rw [if_neg c12] at H
                    exact absurd H (by simp)
                · rw [if_neg c11] at H
                  exact absurd H (by simp)
              · rw [if_neg c10] at H
                exact absurd H (by simp)
            · rw [if_neg c8] at H
              (have c8b0 : decide (0 < x4_1) = false := decide_eq_false c8); (clear c8); ((first | rw [c8b0] | (simp only [i64_w, i32_w]; rw [c8b0]) | skip)); (have H' := Aside0.mk H); (clear H); (go_wp2); (go_meet)
              case rel => exact ⟨_, (0), (by first | rfl | (simp; done) | (simp [*]; done)), H', ⟨by have := HK1.out; first | omega | exact Nat.le_refl _⟩, ⟨by repeat (first | (with_reducible first | exact HB.out | apply y1_ | apply y2_ | apply y3_) | exact HB.out)⟩⟩
          case rest =>
            (clear HC7); (try clear c1); (try clear p1); (try clear q1); (try clear hx1); (try clear c2); (try clear p2); (try clear c3); (try clear c6); (try clear c6b0); (try clear p6); (try clear c7); (try clear c8); (try clear c8b0); (try clear c10); (try clear c10b0); (try clear c11); (try clear c11b0); (try clear c12); (try clear c12b0); (try clear hx196_0); (try clear hx196_1); (try clear hx197_0); (try clear hx197_1); (try clear p196); (try clear p197); (try clear p2); (try clear q196); (try clear q197); (obtain ⟨kq, x5_6, rfl, HA, HJ6, HB⟩ := hcut)
            cases kq with
            | zero => exact absurd HA.out (by simp [catchmentref10_Pack.j1])
            | succ kj6 =>
              (have H := HA.out); (clear HA); (simp only [catchmentref10_Pack.j1] at H); (replace H := Option.bind_eq_some_iff.mp H); (obtain ⟨t199, A150, H⟩ := H); (replace H : (if x3_1.size + t199.size ≤ 9223372036854775807 then (if 0 ≤ x4_1 then (if x4_1 < (l0.length : Int) then (if 0 ≤ x5_6 then (if x5_6 ≤ (((rd_T25 l0 x4_1).f0).size : Int) then ((catchmentref03_Texts.f kj6 (([((rd_T25 l0 x4_1).f0).extract (x5_6 : Int).toNat ((rd_T25 l0 x4_1).f0).size, (rd_T25 l0 x4_1).f1] : List ByteArray))).bind fun t205 => (if (x3_1 ++ t199).size + t205.size ≤ 9223372036854775807 then (catchmentref10_Pack.l0 kj6 l0 ((x3_1 ++ t199) ++ t205) (wrap64 (x4_1 + 1))) else (none))) else (none)) else (none)) else (none)) else (none)) else (none)) = some r := H); (have A15 := Aside0.mk A150); (clear A150); (by_cases c16 : x3_1.size + t199.size ≤ 9223372036854775807)
              · rw [if_pos c16] at H
                (have c16b0 := eq_true c16); (have c16b1 : decide (x3_1.size + t199.size ≤ 9223372036854775807) = true := decide_eq_true c16); (try have c16b2 : (9223372036854775807 < x3_1.size + t199.size) = False := eq_false (Nat.not_lt.2 c16)); (by_cases c17 : 0 ≤ x4_1)
                · rw [if_pos c17] at H
                  (have c17b0 : decide (0 ≤ x4_1) = true := decide_eq_true c17); (clear c17); (by_cases c18 : x4_1 < (l0.length : Int))
                  · rw [if_pos c18] at H
                    (have c18b0 : decide (x4_1 < (l0.length : Int)) = true := decide_eq_true c18); (clear c18); (by_cases c19 : 0 ≤ x5_6)
                    · rw [if_pos c19] at H
                      (have c19b0 := eq_true c19); (have c19b1 : decide (0 ≤ x5_6) = true := decide_eq_true c19); (clear c19); (by_cases c20 : x5_6 ≤ (((rd_T25 l0 x4_1).f0).size : Int))
                      · rw [if_pos c20] at H
                        (have c20b0 := eq_true c20); (have c20b1 : decide (x5_6 ≤ (((rd_T25 l0 x4_1).f0).size : Int)) = true := decide_eq_true c20); (clear c20); (obtain ⟨y202, hy202⟩ : ∃ y_ : List ByteArray, y_ = (([((rd_T25 l0 x4_1).f0).extract (x5_6 : Int).toNat ((rd_T25 l0 x4_1).f0).size, (rd_T25 l0 x4_1).f1] : List ByteArray)) := ⟨_, rfl⟩); (replace H : ((catchmentref03_Texts.f kj6 y202).bind fun t205 => (if (x3_1 ++ t199).size + t205.size ≤ 9223372036854775807 then (catchmentref10_Pack.l0 kj6 l0 ((x3_1 ++ t199) ++ t205) (wrap64 (x4_1 + 1))) else (none))) = some r := by first | (rw [hy202]; with_reducible exact H) | (have H2_ := (Option.bind_some _ _).symm.trans H; rw [hy202]; with_reducible exact H2_) | (have H2_ := (Option.bind_some _ _).symm.trans H; with_reducible exact H2_) | with_reducible exact H | (rw [hy202]; exact H) | exact H); (have Ny202 := Aside0.mk hy202); (clear hy202); (replace H := Option.bind_eq_some_iff.mp H); (obtain ⟨t205, A210, H⟩ := H); (replace H : (if (x3_1 ++ t199).size + t205.size ≤ 9223372036854775807 then (catchmentref10_Pack.l0 kj6 l0 ((x3_1 ++ t199) ++ t205) (wrap64 (x4_1 + 1))) else (none)) = some r := H); (have A21 := Aside0.mk A210); (clear A210)
                        by_cases c22 : (x3_1 ++ t199).size + t205.size ≤ 9223372036854775807
                        · rw [if_pos c22] at H
                          (have c22b0 := eq_true c22); (have c22b1 : decide ((x3_1 ++ t199).size + t205.size ≤ 9223372036854775807) = true := decide_eq_true c22); (have c22b3 := eq_false (Nat.not_lt.2 c22)); (simp only [ByteArray.size_append] at c22b3); (try have c22b2 : (9223372036854775807 < (x3_1 ++ t199).size + t205.size) = False := eq_false (Nat.not_lt.2 c22)); (have H' := Aside0.mk H); (clear H); (try go_wp2); (have n0_ := Aside0.mk (below_drew1 HB.out)); (clear HB); (have HB := n0_); (clear n0_); (have p200 : 0 ≤ (x4_1 : Int) := of_decide_eq_true (by first | (with_reducible assumption) | assumption)); (have q200 : x4_1 < (l0.length : Int) := of_decide_eq_true (by first | (with_reducible assumption) | assumption)); (obtain ⟨ad200, e200, hx200_0, hx200_1⟩ := at_T25 HR0.out x4_1 p200 q200); (have hw200_1 := hx200_1); (have hw200_0 := hx200_0); (cases e200); (replace hx200_0 := (HB.out.cell (World.block_lt_of_cell? w _ hx200_0)).trans hx200_0); (replace hx200_1 := (HB.out.cell (World.block_lt_of_cell? w _ hx200_1)).trans hx200_1); (replace p200 := eq_true p200); (replace q200 := eq_true q200); (have p201 : 0 ≤ (x4_1 : Int) := of_decide_eq_true (by first | (with_reducible assumption) | assumption))
                          (have q201 : x4_1 < (l0.length : Int) := of_decide_eq_true (by first | (with_reducible assumption) | assumption)); (obtain ⟨ad201, e201, hx201_0, hx201_1⟩ := at_T25 HR0.out x4_1 p201 q201); (have hw201_1 := hx201_1); (have hw201_0 := hx201_0); (obtain rfl : ad200 = ad201 := (by injection e201)); (replace hx201_0 := (HB.out.cell (World.block_lt_of_cell? w _ hx201_0)).trans hx201_0); (replace hx201_1 := (HB.out.cell (World.block_lt_of_cell? w _ hx201_1)).trans hx201_1); (replace p201 := eq_true p201); (replace q201 := eq_true q201); (refine start_ (n := 20) (S := fun w' => True) (ds := []) #[false, false, false, false, false, false, false, false, false, false, false, false, false, false, false, false, false, false, false, false] (by kernel_rfl) rfl rfl trivial (fun hHeld => ?_); refine with_tabW catchmentref10_Pack.tab10 catchmentref10_Pack.bits10 (fun HT_ HW_ => ?_)); (generalize wc.drew = w23 at HB hx200_0 hx200_1 hx201_0 hx201_1 hHeld ⊢); (refine pu_ (i := 0) (N := some 32) (v := ?_) (a' := ?_) HT_.out rfl rfl (.inl ⟨by rfl, ?_⟩) ?_ ?_; rotate_left)
                          · intro w'; go_simp; with_reducible rfl
                          rotate_left
                          · simp only [pt_, pn_, sz_, ss_, i64_w, i32_w]; rfl
                          refine pu_ (i := 1) (N := some 33) (v := ?_) (a' := ?_) HT_.out rfl rfl (.inl ⟨by rfl, ?_⟩) ?_ ?_; rotate_left
                          · intro w'; go_simp; with_reducible rfl
                          rotate_left
                          · simp only [pt_, pn_, sz_, ss_, i64_w, i32_w]; rfl
                          refine pu_ (i := 4) (N := some 36) (v := ?_) (a' := ?_) HT_.out rfl rfl (.inl ⟨by rfl, ?_⟩) ?_ ?_; rotate_left
                          · intro w'; go_simp; with_reducible rfl
                          rotate_left
                          · simp only [pt_, pn_, sz_, ss_, i64_w, i32_w]; rfl
                          refine pu_ (i := 5) (N := some 37) (v := ?_) (a' := ?_) HT_.out rfl rfl (.inl ⟨by rfl, ?_⟩) ?_ ?_; rotate_left
                          · intro w'; go_simp; with_reducible rfl
                          rotate_left
                          · simp only [pt_, pn_, sz_, ss_, i64_w, i32_w]; rfl
                          refine pu_ (i := 9) (N := some 41) (v := ?_) (a' := ?_) HT_.out rfl rfl (.inl ⟨by rfl, ?_⟩) ?_ ?_; rotate_left
                          · intro w'; go_simp; with_reducible rfl
                          rotate_left
                          · simp only [pt_, pn_, sz_, ss_, i64_w, i32_w]; rfl
                          refine pu_ (i := 11) (N := some 43) (v := ?_) (a' := ?_) HT_.out rfl rfl (.inl ⟨by rfl, ?_⟩) ?_ ?_; rotate_left
                          · intro w'; go_simp; with_reducible rfl
                          rotate_left
                          · simp only [pt_, pn_, sz_, ss_, i64_w, i32_w]; rfl
                          refine pu_ (i := 12) (N := some 44) (v := ?_) (a' := ?_) HT_.out rfl rfl (.inl ⟨by rfl, ?_⟩) ?_ ?_; rotate_left
                          · intro w'; go_simp; with_reducible rfl
                          rotate_left
                          · simp only [pt_, pn_, sz_, ss_, i64_w, i32_w]; rfl
                          refine inv_at [2, 3, 6, 7, 8, 10, 13, 14, 15, 16, 17, 18, 19] (fun a0_ b a w' => ∃ (v203 : Value), a = putSel a0_ b [(2, 34, .string t199), (3, 35, .string (x3_1 ++ t199)), (6, 38, .pointer (some (ad200.add ((x4_1).toNat * 2)))), (7, 39, .pointer (some (ad200.add ((x4_1).toNat * 2)))), (8, 40, .string ((rd_T25 l0 x4_1).f0)), (10, 42, .string (((rd_T25 l0 x4_1).f0).extract (x5_6 : Int).toNat ((rd_T25 l0 x4_1).f0).size)), (13, 45, .pointer (some (ad200.add ((x4_1).toNat * 2)))), (14, 46, .pointer (some ⟨(ad200.add ((x4_1).toNat * 2)).block, (ad200.add ((x4_1).toNat * 2)).off + 1, none⟩)), (15, 47, .string ((rd_T25 l0 x4_1).f1)), (16, 48, v203), (17, 49, .string t205), (18, 50, .string ((x3_1 ++ t199) ++ t205)), (19, 3, .string ((x3_1 ++ t199) ++ t205))] ∧ (Below w.heap.size w w') ∧ (b 16 = true → Kd.R Kd.string 9 w' w.heap.size (fun _ => True) v203 y202)) HT_.out HW_.out (by kernel_rfl) (by kernel_rfl) ?_ ?_ ?_
                          · exact ⟨.bool false, by simp only [putSel, Bool.false_eq_true, if_false], HB.out, fun h_ => absurd h_ (by decide)⟩
                          · skip
                            (clear HB); (refine steps_cons ?_ ?_)
                            · rintro b a w' ⟨v203, ha, Q_HB, Q_HO204⟩ hb_ hon hoff
                              (refine ⟨_, rfl, fun K hK => ?_⟩); (have e33 : a.tmps[33]? = some (.int .i64 x5_6) := by rw [ha]; exact (putSel_off rfl).trans rfl); (replace ha := Aside0.mk ha); (have HB := Aside0.mk Q_HB); (refine goes_ Try.func85 (by kernel_rfl) rfl #[.int .i64 x5_6] (by rfl) rfl rfl (by first | (simp only [List.map_toArray, List.map_cons, List.map_nil, Act.eval, Array.getD_eq_getD_getElem?, Option.getD_some, e33]; done) | (simp only [List.map_toArray, List.map_cons, List.map_nil, Act.eval, Array.getD_eq_getD_getElem?, Option.getD_some, e33]; rfl)) ?_); (with_reducible refine (catchmentref03_Num.calls kj6 x5_6 t199 _ A15.out).mono ?_); (rintro e w24 ⟨rfl, hb⟩); (refine ⟨_, rfl, ?_⟩); (have n0_ := Aside0.mk (below_step (by repeat (first | (with_reducible first | exact HB.out | apply y1_ | apply y2_ | apply y3_) | exact HB.out)) hb))
                              (have z_HO204 := fun (h0_ : b 16 = true) => (show Kd.R Kd.string 9 w24 w.heap.size (fun _ => True) v203 y202 from by first | exact (Kd.R_below (by (with_reducible repeat (first | apply Kd.R_alloc | apply Kd.R_drewN | apply Kd.R_drew)); exact (Q_HO204 h0_)) hb) | exact Kd.R_mono (Kd.R_below (by (with_reducible repeat (first | apply Kd.R_alloc | apply Kd.R_drewN | apply Kd.R_drew)); exact (Q_HO204 h0_)) hb) (fun _ h_ => by first | trivial | exact h_ | exact h_.1))); (clear HB); (have HB := n0_); (clear n0_); ((try clear hb)); ((try clear hb2)); ((try clear hk)); ((try clear hi)); (refine hK.out _ _ ⟨v203, (by rw [ha.out]; exact putSel_upk 0 hb_ rfl rfl rfl), (by repeat (first | (with_reducible first | exact HB.out | apply y1_ | apply y2_ | apply y3_) | exact HB.out)), z_HO204⟩)
                            refine steps_cons ?_ ?_
                            · rintro b a w' ⟨v203, ha, Q_HB, Q_HO204⟩ hb_ hon hoff
                              (refine ⟨_, rfl, fun K hK => ?_⟩); (have e32 : a.tmps[32]? = some (.string x3_1) := by rw [ha]; exact (putSel_off rfl).trans rfl); (have e34 : a.tmps[34]? = some (.string t199) := by rw [ha]; exact putSel_on (e := (2, 34, .string t199)) 0 rfl rfl (hon 2 (by kernel_rfl)) rfl); (replace ha := Aside0.mk ha); (have HB := Aside0.mk Q_HB); (refine value_ (w1 := w') (v := .string (x3_1 ++ t199)) (by rfl) rfl ?_ ?_)
                              · go_simp
                                ((try simp only [i64_w])); (try rfl)
                              refine hK.out _ _ ⟨v203, (by rw [ha.out]; exact putSel_upk 1 hb_ rfl rfl rfl), Q_HB, Q_HO204⟩
                            refine steps_cons ?_ ?_
                            · rintro b a w' ⟨v203, ha, Q_HB, Q_HO204⟩ hb_ hon hoff
                              (refine ⟨_, rfl, fun K hK => ?_⟩); (have e36 : a.tmps[36]? = some (.slice (some ad200) l0.length c0) := by rw [ha]; exact (putSel_off rfl).trans rfl); (have e37 : a.tmps[37]? = some (.int .i64 x4_1) := by rw [ha]; exact (putSel_off rfl).trans rfl); (replace ha := Aside0.mk ha); (have HB := Aside0.mk Q_HB); (have hs0_ : w'.cell? (ad200.add ((x4_1).toNat * 2)) = some (.string ((rd_T25 l0 x4_1).f0)) := ((HB.out.cell (World.block_lt_of_cell? w _ hw200_0)).trans hw200_0)); (have hs1_ : w'.cell? ⟨(ad200.add ((x4_1).toNat * 2)).block, (ad200.add ((x4_1).toNat * 2)).off + 1, none⟩ = some (.string ((rd_T25 l0 x4_1).f1)) := ((HB.out.cell (World.block_lt_of_cell? w _ hw200_1)).trans hw200_1)); (refine value_ (w1 := w') (v := .pointer (some (ad200.add ((x4_1).toNat * 2)))) (by rfl) rfl ?_ ?_)
                              · go_simp
                                ((try simp only [i64_w])); (try rfl)
                              refine hK.out _ _ ⟨v203, (by rw [ha.out]; exact putSel_upk 2 hb_ rfl rfl rfl), Q_HB, fun h0_ => absurd ((hoff 16 (by kernel_rfl)).symm.trans h0_) (by decide)⟩
                            refine steps_cons ?_ ?_
                            · rintro b a w' ⟨v203, ha, Q_HB, Q_HO204⟩ hb_ hon hoff
                              (refine ⟨_, rfl, fun K hK => ?_⟩); (have e38 : a.tmps[38]? = some (.pointer (some (ad200.add ((x4_1).toNat * 2)))) := by rw [ha]; exact putSel_on (e := (6, 38, .pointer (some (ad200.add ((x4_1).toNat * 2))))) 2 rfl rfl (hon 6 (by kernel_rfl)) rfl); (replace ha := Aside0.mk ha); (have HB := Aside0.mk Q_HB); (refine value_ (w1 := w') (v := .pointer (some (ad200.add ((x4_1).toNat * 2)))) (by rfl) rfl ?_ ?_)
                              · go_simp
                                ((try simp only [i64_w])); (try rfl)
                              refine hK.out _ _ ⟨v203, (by rw [ha.out]; exact putSel_upk 3 hb_ rfl rfl rfl), Q_HB, fun h0_ => absurd ((hoff 16 (by kernel_rfl)).symm.trans h0_) (by decide)⟩
                            refine steps_cons ?_ ?_
                            · rintro b a w' ⟨v203, ha, Q_HB, Q_HO204⟩ hb_ hon hoff
                              (refine ⟨_, rfl, fun K hK => ?_⟩); (have e39 : a.tmps[39]? = some (.pointer (some (ad200.add ((x4_1).toNat * 2)))) := by rw [ha]; exact putSel_on (e := (7, 39, .pointer (some (ad200.add ((x4_1).toNat * 2))))) 3 rfl rfl (hon 7 (by kernel_rfl)) rfl); (replace ha := Aside0.mk ha); (have HB := Aside0.mk Q_HB); (have hs0_ : w'.cell? (ad200.add ((x4_1).toNat * 2)) = some (.string ((rd_T25 l0 x4_1).f0)) := ((HB.out.cell (World.block_lt_of_cell? w _ hw200_0)).trans hw200_0)); (have hs1_ : w'.cell? ⟨(ad200.add ((x4_1).toNat * 2)).block, (ad200.add ((x4_1).toNat * 2)).off + 1, none⟩ = some (.string ((rd_T25 l0 x4_1).f1)) := ((HB.out.cell (World.block_lt_of_cell? w _ hw200_1)).trans hw200_1)); (refine value_ (w1 := w') (v := .string ((rd_T25 l0 x4_1).f0)) (by rfl) rfl ?_ ?_)
                              · go_simp
                                ((try simp only [i64_w])); (try rfl)
                              refine hK.out _ _ ⟨v203, (by rw [ha.out]; exact putSel_upk 4 hb_ rfl rfl rfl), Q_HB, fun h0_ => absurd ((hoff 16 (by kernel_rfl)).symm.trans h0_) (by decide)⟩
                            refine steps_cons ?_ ?_
                            · rintro b a w' ⟨v203, ha, Q_HB, Q_HO204⟩ hb_ hon hoff
                              (refine ⟨_, rfl, fun K hK => ?_⟩); (have e40 : a.tmps[40]? = some (.string ((rd_T25 l0 x4_1).f0)) := by rw [ha]; exact putSel_on (e := (8, 40, .string ((rd_T25 l0 x4_1).f0))) 4 rfl rfl (hon 8 (by kernel_rfl)) rfl); (have e41 : a.tmps[41]? = some (.int .i64 x5_6) := by rw [ha]; exact (putSel_off rfl).trans rfl); (replace ha := Aside0.mk ha); (have HB := Aside0.mk Q_HB); (refine value_ (w1 := w') (v := .string (((rd_T25 l0 x4_1).f0).extract (x5_6 : Int).toNat ((rd_T25 l0 x4_1).f0).size)) (by rfl) rfl ?_ ?_)
                              · go_simp
                                ((try simp only [i64_w])); (try rfl)
                              refine hK.out _ _ ⟨v203, (by rw [ha.out]; exact putSel_upk 5 hb_ rfl rfl rfl), Q_HB, fun h0_ => absurd ((hoff 16 (by kernel_rfl)).symm.trans h0_) (by decide)⟩
                            refine steps_cons ?_ ?_
                            · rintro b a w' ⟨v203, ha, Q_HB, Q_HO204⟩ hb_ hon hoff
                              (refine ⟨_, rfl, fun K hK => ?_⟩); (have e43 : a.tmps[43]? = some (.slice (some ad200) l0.length c0) := by rw [ha]; exact (putSel_off rfl).trans rfl); (have e44 : a.tmps[44]? = some (.int .i64 x4_1) := by rw [ha]; exact (putSel_off rfl).trans rfl); (replace ha := Aside0.mk ha); (have HB := Aside0.mk Q_HB); (have hs2_ : w'.cell? (ad200.add ((x4_1).toNat * 2)) = some (.string ((rd_T25 l0 x4_1).f0)) := ((HB.out.cell (World.block_lt_of_cell? w _ hw201_0)).trans hw201_0)); (have hs3_ : w'.cell? ⟨(ad200.add ((x4_1).toNat * 2)).block, (ad200.add ((x4_1).toNat * 2)).off + 1, none⟩ = some (.string ((rd_T25 l0 x4_1).f1)) := ((HB.out.cell (World.block_lt_of_cell? w _ hw201_1)).trans hw201_1)); (refine value_ (w1 := w') (v := .pointer (some (ad200.add ((x4_1).toNat * 2)))) (by rfl) rfl ?_ ?_)
                              · go_simp
                                ((try simp only [i64_w])); (try rfl)
                              refine hK.out _ _ ⟨v203, (by rw [ha.out]; exact putSel_upk 6 hb_ rfl rfl rfl), Q_HB, fun h0_ => absurd ((hoff 16 (by kernel_rfl)).symm.trans h0_) (by decide)⟩
                            refine steps_cons ?_ ?_
                            · rintro b a w' ⟨v203, ha, Q_HB, Q_HO204⟩ hb_ hon hoff
                              (refine ⟨_, rfl, fun K hK => ?_⟩); (have e45 : a.tmps[45]? = some (.pointer (some (ad200.add ((x4_1).toNat * 2)))) := by rw [ha]; exact putSel_on (e := (13, 45, .pointer (some (ad200.add ((x4_1).toNat * 2))))) 6 rfl rfl (hon 13 (by kernel_rfl)) rfl); (replace ha := Aside0.mk ha); (have HB := Aside0.mk Q_HB); (refine value_ (w1 := w') (v := .pointer (some ⟨(ad200.add ((x4_1).toNat * 2)).block, (ad200.add ((x4_1).toNat * 2)).off + 1, none⟩)) (by rfl) rfl ?_ ?_)
                              · go_simp
                                ((try simp only [i64_w])); (try rfl)
                              refine hK.out _ _ ⟨v203, (by rw [ha.out]; exact putSel_upk 7 hb_ rfl rfl rfl), Q_HB, fun h0_ => absurd ((hoff 16 (by kernel_rfl)).symm.trans h0_) (by decide)⟩
                            refine steps_cons ?_ ?_
                            · rintro b a w' ⟨v203, ha, Q_HB, Q_HO204⟩ hb_ hon hoff
                              (refine ⟨_, rfl, fun K hK => ?_⟩); (have e46 : a.tmps[46]? = some (.pointer (some ⟨(ad200.add ((x4_1).toNat * 2)).block, (ad200.add ((x4_1).toNat * 2)).off + 1, none⟩)) := by rw [ha]; exact putSel_on (e := (14, 46, .pointer (some ⟨(ad200.add ((x4_1).toNat * 2)).block, (ad200.add ((x4_1).toNat * 2)).off + 1, none⟩))) 7 rfl rfl (hon 14 (by kernel_rfl)) rfl); (replace ha := Aside0.mk ha); (have HB := Aside0.mk Q_HB); (have hs2_ : w'.cell? (ad200.add ((x4_1).toNat * 2)) = some (.string ((rd_T25 l0 x4_1).f0)) := ((HB.out.cell (World.block_lt_of_cell? w _ hw201_0)).trans hw201_0)); (have hs3_ : w'.cell? ⟨(ad200.add ((x4_1).toNat * 2)).block, (ad200.add ((x4_1).toNat * 2)).off + 1, none⟩ = some (.string ((rd_T25 l0 x4_1).f1)) := ((HB.out.cell (World.block_lt_of_cell? w _ hw201_1)).trans hw201_1)); (refine value_ (w1 := w') (v := .string ((rd_T25 l0 x4_1).f1)) (by rfl) rfl ?_ ?_)
                              · go_simp
                                ((try simp only [i64_w])); (try rfl)
                              refine hK.out _ _ ⟨v203, (by rw [ha.out]; exact putSel_upk 8 hb_ rfl rfl rfl), Q_HB, fun h0_ => absurd ((hoff 16 (by kernel_rfl)).symm.trans h0_) (by decide)⟩
                            refine steps_cons ?_ ?_
                            · rintro b a w' ⟨v203, ha, Q_HB, Q_HO204⟩ hb_ hon hoff
                              (refine ⟨_, rfl, fun K hK => ?_⟩); (have e42 : a.tmps[42]? = some (.string (((rd_T25 l0 x4_1).f0).extract (x5_6 : Int).toNat ((rd_T25 l0 x4_1).f0).size)) := by rw [ha]; exact putSel_on (e := (10, 42, .string (((rd_T25 l0 x4_1).f0).extract (x5_6 : Int).toNat ((rd_T25 l0 x4_1).f0).size))) 5 rfl rfl (hon 10 (by kernel_rfl)) rfl); (have e47 : a.tmps[47]? = some (.string ((rd_T25 l0 x4_1).f1)) := by rw [ha]; exact putSel_on (e := (15, 47, .string ((rd_T25 l0 x4_1).f1))) 8 rfl rfl (hon 15 (by kernel_rfl)) rfl); (replace ha := Aside0.mk ha); (have HB := Aside0.mk Q_HB)
                              (refine Kd.R_lit_step Kd.string _ 9 ?hg (N := 48) ?hd (xs := ([((rd_T25 l0 x4_1).f0).extract (x5_6 : Int).toNat ((rd_T25 l0 x4_1).f0).size, (rd_T25 l0 x4_1).f1] : List ByteArray)) (inner := [.string (((rd_T25 l0 x4_1).f0).extract (x5_6 : Int).toNat ((rd_T25 l0 x4_1).f0).size), .string ((rd_T25 l0 x4_1).f1)]) (ok := fun _ => True) (okp := fun _ => True) ?hr ?hp (fun _ hk => hk) trivial (Below.refl _ _) (Nat.le_refl _) (by simp) ?_; (case hd => rfl); (case hg => rfl); (case hr => first | (go_simp; done) | (go_simp; rfl)); (case hp => exact (Reps.one (show Kd.M Kd.string _ _ _ (((rd_T25 l0 x4_1).f0).extract (x5_6 : Int).toNat ((rd_T25 l0 x4_1).f0).size) [.string (((rd_T25 l0 x4_1).f0).extract (x5_6 : Int).toNat ((rd_T25 l0 x4_1).f0).size)] from rfl) (Reps.one (show Kd.M Kd.string _ _ _ ((rd_T25 l0 x4_1).f1) [.string ((rd_T25 l0 x4_1).f1)] from rfl) (Reps.none _ _))))); (intro v203 w24 ho25 hb hg_ hnew_); (clear hg_ hnew_); ((first | rw [← Ny202.out] at ho25 | (simp only [Int.reduceToNat] at ho25; rw [← Ny202.out] at ho25)))
                              (have n0_ := Aside0.mk (Kd.R_lower ho25 (below_size (by repeat (first | (with_reducible first | exact HB.out | apply y1_ | apply y2_ | apply y3_) | exact HB.out))))); (have n1_ := Aside0.mk (below_step (by repeat (first | (with_reducible first | exact HB.out | apply y1_ | apply y2_ | apply y3_) | exact HB.out)) hb)); (clear HB); (have HO204 := n0_); (have HB := n1_); (clear n0_ n1_ hb ho25); (refine hK.out _ _ ⟨v203, (by rw [ha.out]; exact putSel_upk 9 hb_ rfl rfl rfl), (by repeat (first | (with_reducible first | exact HB.out | apply y1_ | apply y2_ | apply y3_) | exact HB.out)), fun _ => (by (with_reducible repeat (first | apply Kd.R_alloc | apply Kd.R_drewN | apply Kd.R_drew)); exact HO204.out)⟩)
                            refine steps_cons ?_ ?_
                            · rintro b a w' ⟨v203, ha, Q_HB, Q_HO204⟩ hb_ hon hoff
                              (refine ⟨_, rfl, fun K hK => ?_⟩); (have e48 : a.tmps[48]? = some (v203) := by rw [ha]; exact putSel_on (e := (16, 48, v203)) 9 rfl rfl (hon 16 (by kernel_rfl)) rfl); (replace ha := Aside0.mk ha); (have HB := Aside0.mk Q_HB); (have HO204 := Aside0.mk (Q_HO204 (hon 16 (by kernel_rfl)))); (obtain ⟨Ao28, co28, eo28⟩ := Kd.R_slice HO204.out); ((first | subst eo28 | (injection eo28 with f1_ f2_ f3_; have f4_ := f1_.symm; have f5_ := f3_.symm; clear f1_ f2_ f3_; subst f4_; subst f5_))); (refine goes_ Try.func86 (by kernel_rfl) rfl #[.slice Ao28 y202.length co28] (by rfl) rfl rfl (by first | (simp only [List.map_toArray, List.map_cons, List.map_nil, Act.eval, Array.getD_eq_getD_getElem?, Option.getD_some, e48]; done) | (simp only [List.map_toArray, List.map_cons, List.map_nil, Act.eval, Array.getD_eq_getD_getElem?, Option.getD_some, e48]; rfl)) ?_); (with_reducible refine (catchmentref03_Texts.calls kj6 _ _ y202 t205 _ ?side1 ?side2 A21.out).mono ?_); ((case side1 => repeat (first | exact (Kd.R_reads' HO204.out).2.2 | (with_reducible refine Kd.C_alloc ?_ _) | (with_reducible refine Kd.C_drewN ?_ _) | (with_reducible refine Kd.C_drew ?_))))
                              ((case side2 => exact (Kd.R_reads' HO204.out).2.1)); (rintro e w29 ⟨rfl, hb⟩); (refine ⟨_, rfl, ?_⟩); (have n0_ := Aside0.mk (Kd.R_below (by (with_reducible repeat (first | apply Kd.R_alloc | apply Kd.R_drewN | apply Kd.R_drew)); exact HO204.out) hb)); (have n1_ := Aside0.mk (below_step (by repeat (first | (with_reducible first | exact HB.out | apply y1_ | apply y2_ | apply y3_) | exact HB.out)) hb)); (clear HO204 HB); (have HO204 := n0_); (have HB := n1_); (clear n0_ n1_); ((try clear hb)); ((try clear hb2)); ((try clear hk)); ((try clear hi)); (refine hK.out _ _ ⟨.slice Ao28 y202.length co28, (by rw [ha.out]; exact putSel_upk 10 hb_ rfl rfl rfl), (by repeat (first | (with_reducible first | exact HB.out | apply y1_ | apply y2_ | apply y3_) | exact HB.out)), fun _ => (by (with_reducible repeat (first | apply Kd.R_alloc | apply Kd.R_drewN | apply Kd.R_drew)); exact HO204.out)⟩)
                            refine steps_cons ?_ ?_
                            · rintro b a w' ⟨v203, ha, Q_HB, Q_HO204⟩ hb_ hon hoff
                              (refine ⟨_, rfl, fun K hK => ?_⟩); (have e35 : a.tmps[35]? = some (.string (x3_1 ++ t199)) := by rw [ha]; exact putSel_on (e := (3, 35, .string (x3_1 ++ t199))) 1 rfl rfl (hon 3 (by kernel_rfl)) rfl); (have e49 : a.tmps[49]? = some (.string t205) := by rw [ha]; exact putSel_on (e := (17, 49, .string t205)) 10 rfl rfl (hon 17 (by kernel_rfl)) rfl); (replace ha := Aside0.mk ha); (have HB := Aside0.mk Q_HB); (have HO204 := Aside0.mk (Q_HO204 (hon 16 (by kernel_rfl)))); (refine value_ (w1 := w') (v := .string ((x3_1 ++ t199) ++ t205)) (by rfl) rfl ?_ ?_)
                              · go_simp
                                ((try simp only [i64_w])); (try rfl)
                              refine hK.out _ _ ⟨v203, (by rw [ha.out]; exact putSel_upk 11 hb_ rfl rfl rfl), Q_HB, Q_HO204⟩
                            refine steps_cons ?_ ?_
                            · rintro b a w' ⟨v203, ha, Q_HB, Q_HO204⟩ hb_ hon hoff
                              (refine ⟨_, rfl, fun K hK => ?_⟩); (have e50 : a.tmps[50]? = some (.string ((x3_1 ++ t199) ++ t205)) := by rw [ha]; exact putSel_on (e := (18, 50, .string ((x3_1 ++ t199) ++ t205))) 11 rfl rfl (hon 18 (by kernel_rfl)) rfl); (replace ha := Aside0.mk ha); (have HB := Aside0.mk Q_HB); (have HO204 := Aside0.mk (Q_HO204 (hon 16 (by kernel_rfl)))); (refine value_ (w1 := w') (v := .string ((x3_1 ++ t199) ++ t205)) (by rfl) rfl ?_ ?_)
                              · go_simp
                                ((try simp only [i64_w])); (try rfl)
                              refine hK.out _ _ ⟨v203, (by rw [ha.out]; exact putSel_upk 12 hb_ rfl rfl rfl), Q_HB, Q_HO204⟩
                            exact steps_nil
                          (rintro b a w29 hall ⟨v203, ha, Q_HB, Q_HO204⟩); (clear HB); (have hb2_ := hall 2 (by kernel_rfl)); (have hb3_ := hall 3 (by kernel_rfl)); (have hb6_ := hall 6 (by kernel_rfl)); (have hb7_ := hall 7 (by kernel_rfl)); (have hb8_ := hall 8 (by kernel_rfl)); (have hb10_ := hall 10 (by kernel_rfl)); (have hb13_ := hall 13 (by kernel_rfl)); (have hb14_ := hall 14 (by kernel_rfl)); (have hb15_ := hall 15 (by kernel_rfl)); (have hb16_ := hall 16 (by kernel_rfl)); (have hb17_ := hall 17 (by kernel_rfl)); (have hb18_ := hall 18 (by kernel_rfl)); (have hb19_ := hall 19 (by kernel_rfl)); (subst ha); (simp only [putSel, hb2_, hb3_, hb6_, hb7_, hb8_, hb10_, hb13_, hb14_, hb15_, hb16_, hb17_, hb18_, hb19_, if_true, Act.put, List.setIfInBounds_toArray, List.set_cons_zero, List.set_cons_succ]); (have HB := Aside0.mk Q_HB); (clear Q_HB); (have HO204 := Aside0.mk (Q_HO204 hb16_)); (clear Q_HO204 hall hb2_ hb3_ hb6_ hb7_ hb8_ hb10_ hb13_ hb14_ hb15_ hb16_ hb17_ hb18_ hb19_); (try go_wp2); (go_roundg kj6)
                          case measure => have := HK1.out; have := HJ6.out; omega
                          case rel => exact ⟨((x3_1 ++ t199) ++ t205), (wrap64 (x4_1 + 1)), (by first | rfl | (simp; done) | (simp [*]; done)), (by first | rfl | (simp; done) | (simp [*]; done)), H', ⟨by have := HK1.out; have := HJ6.out; omega⟩, ⟨by repeat (first | (with_reducible first | exact HB.out | apply y1_ | apply y2_ | apply y3_) | exact HB.out)⟩⟩
                        · rw [if_neg c22] at H
                          exact absurd H (by simp)
                      · rw [if_neg c20] at H
                        exact absurd H (by simp)
                    · rw [if_neg c19] at H
                      exact absurd H (by simp)
                  · rw [if_neg c18] at H
                    exact absurd H (by simp)
                · rw [if_neg c17] at H
                  exact absurd H (by simp)
              · rw [if_neg c16] at H
                exact absurd H (by simp)
        · rw [if_neg c6] at H
          (have c6b0 : decide (x4_1 < (l0.length : Int)) = false := decide_eq_false c6); (clear c6); (obtain rfl := Option.some.inj H); (go_wp2); (go_ret); (exact ⟨by first | rfl | (simp [errW_none, errW_some] <;> rfl) | (simp [*, errW_none, errW_some] <;> rfl), by repeat (first | (with_reducible first | exact HB.out | apply y1_ | apply y2_ | apply y3_) | exact HB.out)⟩)
  · replace c3 := Bool.eq_false_iff.mpr c3
    (subst c3); (have H1 : (some (⟨#[]⟩ : ByteArray)) = some r := by rw [if_neg (show ¬ (false = true) by decide)] at H; exact H); (clear H); (have H := H1); (clear H1); (obtain rfl := Option.some.inj H); (go_enter Try.func20, Try.ntmps20); (go_wp2_with (first | ((with_reducible refine gate_callee (f := 22) rfl ?_); refine goesL_ (some 7) rfl rfl Try.func22 (by kernel_rfl) rfl #[.slice A0 l0.length c0] rfl (by (try simp only [List.map_toArray, List.map_cons, List.map_nil]); first | done | rfl | (simp only [List.length_drop, List.length_take]; rfl)) ?_; (with_reducible refine (catchmentref05_Rises.calls k _ _ l0 false _ ?side1 ?side2 A2.out).mono ?_); (case side1 => repeat (first | exact HR0.out | (with_reducible refine Kd.C_alloc ?_ _) | (with_reducible refine Kd.C_drewN ?_ _) | (with_reducible refine Kd.C_drew ?_))); (case side2 => exact HC0.out); rintro e w' ⟨rfl, ⟨nd, rfl⟩⟩; refine ⟨_, rfl, ?_⟩))); (go_ret); (exact ⟨by first | rfl | (simp [errW_none, errW_some] <;> rfl) | (simp [*, errW_none, errW_some] <;> rfl), by repeat (first | (with_reducible first | exact HB.out | apply y1_ | apply y2_ | apply y3_) | exact HB.out)⟩)

end Go.Proofs.Ytnklnjghecmihaa.H6
