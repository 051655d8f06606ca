-- written by a program of this session (wip/myprint.py), over the kit's printer and the session's own contracts
import Derived.Test.YtnklnjghecmihaaH4x0
import Derived.Test.YtnklnjghecmihaaH4P0
namespace Go.Proofs.Ytnklnjghecmihaa.H4
open Go.RowKit Go.Proofs.YtnklnjghecmihaaW.PrintWords Go.Proofs.YtnklnjghecmihaaW.PrintLast Go.Proofs.YtnklnjghecmihaaW.PrintMore Go.Proofs.YtnklnjghecmihaaW.Mine
attribute [local go_sem] max2_int min2_int max_two min_two max_three min_three max_four min_four max2_str min2_str binOp_gtr_str binOp_leq_str binOp_geq_str   -- for this text's walks alone
set_option linter.unusedVariables false
set_option linter.unusedSimpArgs false

/-! ### catchmentref10_Cut: function 69 -/
def catchmentref10_Cut.l0 : Nat → List (S25) → List (S25) → Int → ByteArray → ByteArray → Option ((List (S25)))
  | 0, _, _, _, _, _ => none
  | k + 1, x0, x5, x6, x296000, x296001 => if x6 < (x0.length : Int) then (if 0 ≤ x6 then ((catchmentref02_Holds.f x296000 x296001 ((rd_T25 x0 x6).f0)).bind fun t300 => (if t300 = true then (catchmentref10_Cut.l0 k x0 x5 (wrap64 (x6 + 1)) x296000 x296001) else (if x5.length < 4398046511104 then (catchmentref10_Cut.l0 k x0 (x5 ++ [(⟨(rd_T25 x0 x6).f0, (rd_T25 x0 x6).f1⟩ : S25)]) (wrap64 (x6 + 1)) x296000 x296001) else (none)))) else (none)) else (some x5)
def catchmentref10_Cut.f (k : Nat) (l0 : List (S25)) (a1_0 : ByteArray) (a1_1 : ByteArray) : Option ((List (S25))) := catchmentref10_Cut.l0 k l0 (([] : List (S25))) 0 a1_0 a1_1
theorem catchmentref10_Cut.mono_l : ∀ k, (∀ y0 y1 y2 y3 y4, LeO (catchmentref10_Cut.l0 k y0 y1 y2 y3 y4) (catchmentref10_Cut.l0 (k + 1) y0 y1 y2 y3 y4))
  | 0 => fun _ _ _ _ _ r h => by simp [catchmentref10_Cut.l0] at h
  | k + 1 => by
    have ih0 := catchmentref10_Cut.mono_l k
    · intro y0 y1 y2 y3 y4
      unfold catchmentref10_Cut.l0
      repeat' first
      | (with_reducible exact ih0 _ _ _ _ _)
      | (with_reducible exact LeO.refl _)
      | (with_reducible exact LeO.none _)
      | (with_reducible refine LeO.ite ?_ ?_)
      | (with_reducible refine LeO.bind ?_ (fun _ => ?_))
      | exact ih0 _ _ _ _ _
      | exact LeO.none _
      | refine LeO.ite ?_ ?_
      | refine LeO.bind ?_ (fun _ => ?_)
theorem catchmentref10_Cut.mono : ∀ a0 a1 a2 k, LeO (catchmentref10_Cut.f k a0 a1 a2) (catchmentref10_Cut.f (k + 1) a0 a1 a2) := by
  (intro a0 a1 a2 k); (have ih0 := catchmentref10_Cut.mono_l k); (unfold catchmentref10_Cut.f)
  repeat' first
      | (with_reducible exact ih0 _ _ _ _ _)
      | (with_reducible exact LeO.refl _)
      | (with_reducible exact LeO.none _)
      | (with_reducible refine LeO.ite ?_ ?_)
      | (with_reducible refine LeO.bind ?_ (fun _ => ?_))
      | exact ih0 _ _ _ _ _
      | exact LeO.none _
      | refine LeO.ite ?_ ?_
      | refine LeO.bind ?_ (fun _ => ?_)
def catchmentref10_Cut.T5 : Bool × List (List Nat × List Nat) := (true, [([], []), ([], []), ([], []), ([1, 2], [1, 2]), ([3], [3]), ([4], [4]), ([0, 5], [0, 5]), ([6], [6])])
def catchmentref10_Cut.B5 : List Nat := [0, 0, 0, 6, 14, 30, 63, 127]
theorem catchmentref10_Cut.tab5 : rtab .any (opsOf Try.f69 5) = catchmentref10_Cut.T5 := by kernel_rfl
theorem catchmentref10_Cut.bits5 : waitsOk catchmentref10_Cut.T5.2 catchmentref10_Cut.B5 = true := by kernel_rfl
set_option maxHeartbeats 8000000 in
set_option maxRecDepth 100000 in
theorem catchmentref10_Cut.calls (k : Nat) (A0 : Option Addr) (c0 : Nat) (l0 : List (S25)) (a1_0 : ByteArray) (a1_1 : ByteArray) (r : List (S25)) (w : World) (hr0 : Kd.C k25 w A0 l0.length l0) (hc0 : l0.length ≤ c0) (h : catchmentref10_Cut.f k l0 a1_0 a1_1 = some r) :
    Calls Try.prog 69 #[.slice A0 l0.length c0, .agg #[.string a1_0, .string a1_1]] w fun e w' => ∃ v0_ : Value, e = .returned (v0_) ∧ Kd.R k25 25 w' w.heap.size (fun _ => True) v0_ r ∧ Below w.heap.size w w' := by
  (have hu48 := Try.underlying48); (have hu25 := Try.underlying25); (have HR0 := Aside0.mk hr0); (have HC0 := Aside0.mk hc0); (clear hr0 hc0); (have HB := Aside0.mk (Below.refl w.heap.size w)); (have H : (catchmentref10_Cut.l0 k l0 (([] : List (S25))) 0 a1_0 a1_1) = some r := h); (clear h); (obtain ⟨y296, hy296⟩ : ∃ y_ : List (S25), y_ = (([] : List (S25))) := ⟨_, rfl⟩); (replace H : (catchmentref10_Cut.l0 k l0 y296 0 a1_0 a1_1) = some r := by first | (rw [hy296]; with_reducible exact H) | (have H2_ := (Option.bind_some _ _).symm.trans H; rw [hy296]; with_reducible exact H2_) | (have H2_ := (Option.bind_some _ _).symm.trans H; with_reducible exact H2_) | with_reducible exact H | (rw [hy296]; exact H) | exact H); (have Ny296 := Aside0.mk hy296); (clear hy296); (have H' := Aside0.mk H); (clear H); (go_enter Try.func69, Try.ntmps69)
  go_wp2_with (first | ((with_reducible refine gate_dst (N := 3) rfl ?_); refine box_event ?hg (N := 3) ?hd (cs := #[.string a1_0, .string a1_1]) (t := 48) ?hr ?_; (case hd => rfl); (case hg => rfl); (case hr => first | (go_simp; done) | (go_simp; rfl)); intro gb295 hg w3 hbox hb; have n0_ := Aside0.mk (below_step (by repeat (first | (with_reducible first | exact HB.out | apply y1_ | apply y2_ | apply y3_) | exact HB.out)) hb); have n1_ := Aside0.mk (hbox); have n2_ := Aside0.mk ((by rw [hg]; exact (below_size (by repeat (first | (with_reducible first | exact HB.out | apply y1_ | apply y2_ | apply y3_) | exact HB.out))) : w.heap.size ≤ gb295)); have n3_ := Aside0.mk ((by rw [hg]; exact (below_size (by repeat (first | (with_reducible first | exact HB.out | apply y1_ | apply y2_ | apply y3_) | exact HB.out))) : w.heap.size ≤ gb295)); clear HB; have HB := n0_; have BK295 := n1_; have GW295 := n2_; have GE295 := n3_; clear n0_ n1_ n2_ n3_; clear hb hbox hg) | ((with_reducible refine gate_dst (N := 7) rfl ?_); refine Kd.R_lit k25 _ 25 ?hg (N := 7) ?hd (xs := ([] : List (S25))) (inner := []) (ok := fun _ => True) (okp := fun _ => True) ?hr ?hp (fun _ hk => hk) trivial (Below.refl _ _) (Nat.le_refl _) (by simp) ?_; (case hd => rfl); (case hg => rfl); (case hr => first | (go_simp; done) | (go_simp; rfl)); (case hp => exact (Reps.none _ _)); intro v297 w4 ho5 hb hg_ hnew_; clear hg_ hnew_; (first | rw [← Ny296.out] at ho5 | (simp only [Int.reduceToNat] at ho5; rw [← Ny296.out] at ho5)); have n0_ := Aside0.mk (Kd.R_lower ho5 (below_size (by repeat (first | (with_reducible first | exact HB.out | apply y1_ | apply y2_ | apply y3_ | refine y4_ ?_ GE295.out) | exact HB.out)))); have n1_ := Aside0.mk (blk_below (g := gb295) (o := .cells #[.string a1_0, .string a1_1] 48 (0, 0)) (by (with_reducible repeat (first | refine z1_ ?_ _ | refine z2_ ?_ | refine z3_ ?_ _)); exact BK295.out) hb); have n2_ := Aside0.mk (below_step (by repeat (first | (with_reducible first | exact HB.out | apply y1_ | apply y2_ | apply y3_ | refine y4_ ?_ GE295.out) | exact HB.out)) hb); clear BK295; clear HB; have HO298 := n0_; have BK295 := n1_; have HB := n2_; clear n0_ n1_ n2_; clear hb ho5))
  (try simp only [Act.put, List.setIfInBounds_toArray, List.set_cons_zero, List.set_cons_succ])
  go_loopg [5, 6] k (fun kq v5 v6 w' => ∃ (x5_1 : List (S25)) (x6_1 : Int), v6 = .int .i64 x6_1 ∧ Aside0 (catchmentref10_Cut.l0 kq l0 x5_1 x6_1 a1_0 a1_1 = some r) ∧ Aside0 (kq ≤ k) ∧ Aside0 (Kd.R k25 25 w' w.heap.size (fun _ => True) v5 x5_1) ∧ Aside0 (w'.heap[gb295]? = some (.cells #[.string a1_0, .string a1_1] 48 (0, 0))) ∧ Aside0 (Below w.heap.size w w'))
  case atStart => exact ⟨(y296), (0), (by first | rfl | (simp; done) | (simp [*]; done)), H', ⟨Nat.le_refl _⟩, ⟨by (with_reducible repeat (first | apply Kd.R_alloc | apply Kd.R_drewN | apply Kd.R_drew)); exact HO298.out⟩, ⟨by (with_reducible repeat (first | refine z1_ ?_ _ | refine z2_ ?_ | refine z3_ ?_ _)); exact BK295.out⟩, ⟨by repeat (first | (with_reducible first | exact HB.out | apply y1_ | apply y2_ | apply y3_ | refine y4_ ?_ GE295.out) | exact HB.out)⟩⟩
  case round =>
    (clear H'); (try clear p2); (obtain ⟨x5_1, x6_1, rfl, HA, HK1, HO_5, BK295, HB⟩ := hrel)
    cases gk with
    | zero => exact absurd HA.out (by simp [catchmentref10_Cut.l0])
    | succ k1 =>
      (have H := HA.out); (clear HA); (simp only [catchmentref10_Cut.l0] at H); (by_cases c6 : x6_1 < (l0.length : Int))
      · rw [if_pos c6] at H
        (have c6b0 : decide (x6_1 < (l0.length : Int)) = true := decide_eq_true c6); (clear c6); (by_cases c7 : 0 ≤ x6_1)
        · rw [if_pos c7] at H
          (have c7b0 : decide (0 ≤ x6_1) = true := decide_eq_true c7); (clear c7); (replace H := Option.bind_eq_some_iff.mp H); (obtain ⟨t300, A80, H⟩ := H); (replace H : (if t300 = true then (catchmentref10_Cut.l0 k1 l0 x5_1 (wrap64 (x6_1 + 1)) a1_0 a1_1) else (if x5_1.length < 4398046511104 then (catchmentref10_Cut.l0 k1 l0 (x5_1 ++ [(⟨(rd_T25 l0 x6_1).f0, (rd_T25 l0 x6_1).f1⟩ : S25)]) (wrap64 (x6_1 + 1)) a1_0 a1_1) else (none))) = some r := H); (have A8 := Aside0.mk A80); (clear A80); (by_cases c9 : t300 = true)
          · subst c9
            (have H1 : (catchmentref10_Cut.l0 k1 l0 x5_1 (wrap64 (x6_1 + 1)) a1_0 a1_1) = some r := by rw [if_pos rfl] at H; exact H); (clear H); (have H := H1); (clear H1); (have H' := Aside0.mk H); (clear H); (try go_wp2); (have n0_ := Aside0.mk (Kd.R_drew HO_5.out)); (have n1_ := Aside0.mk (blk_drew BK295.out)); (have n2_ := Aside0.mk (below_drew1 HB.out)); (clear HO_5 BK295 HB); (have HO_5 := n0_); (have BK295 := n1_); (have HB := n2_); (clear n0_ n1_ n2_); (have p299 : 0 ≤ (x6_1 : Int) := of_decide_eq_true (by first | (with_reducible assumption) | assumption)); (have q299 : x6_1 < (l0.length : Int) := of_decide_eq_true (by first | (with_reducible assumption) | assumption)); (obtain ⟨ad299, e299, hx299_0, hx299_1⟩ := at_T25 HR0.out x6_1 p299 q299); (have hw299_1 := hx299_1); (have hw299_0 := hx299_0); (cases e299); (replace hx299_0 := (HB.out.cell (World.block_lt_of_cell? w _ hx299_0)).trans hx299_0); (replace hx299_1 := (HB.out.cell (World.block_lt_of_cell? w _ hx299_1)).trans hx299_1); (replace p299 := eq_true p299); (replace q299 := eq_true q299)
            (refine start_ (n := 8) (S := fun w' => w'.cell? ⟨gb295, 0, none⟩ = some (.string a1_0) ∧ w'.cell? ⟨gb295, 1, none⟩ = some (.string a1_1) ∧ w'.cell? (ad299.add ((x6_1).toNat * 2)) = some (.string ((rd_T25 l0 x6_1).f0)) ∧ w'.cell? ⟨(ad299.add ((x6_1).toNat * 2)).block, (ad299.add ((x6_1).toNat * 2)).off + 1, none⟩ = some (.string ((rd_T25 l0 x6_1).f1))) (ds := []) #[false, false, false, false, false, false, false, false] (by kernel_rfl) rfl rfl ⟨(blk_cell BK295.out 0).trans rfl, (blk_cell BK295.out 1).trans rfl, ((HB.out.cell (World.block_lt_of_cell? w _ hw299_0)).trans hw299_0), ((HB.out.cell (World.block_lt_of_cell? w _ hw299_1)).trans hw299_1)⟩ (fun hHeld => ?_); refine with_tabW catchmentref10_Cut.tab5 catchmentref10_Cut.bits5 (fun HT_ HW_ => ?_)); (generalize wr.drew = w10 at HO_5 BK295 HB hx299_0 hx299_1 hHeld ⊢); (refine pu_ (i := 1) (N := some 15) (v := ?_) (a' := ?_) HT_.out rfl rfl (.inl ⟨by rfl, ?_⟩) ?_ ?_; rotate_left)
            · intro w'; go_simp; with_reducible rfl
            rotate_left
            · simp only [pt_, pn_, sz_, ss_, i64_w, i32_w]; rfl
            refine pu_ (i := 2) (N := some 16) (v := ?_) (a' := ?_) HT_.out rfl rfl (.inl ⟨by rfl, ?_⟩) ?_ ?_; rotate_left
            · intro w'; go_simp; with_reducible rfl
            rotate_left
            · simp only [pt_, pn_, sz_, ss_, i64_w, i32_w]; rfl
            refine pu_ (i := 3) (N := some 17) (v := ?_) (a' := ?_) HT_.out rfl rfl (.inl ⟨by rfl, ?_⟩) ?_ ?_; rotate_left
            · intro w'; go_simp; with_reducible rfl
            rotate_left
            · simp only [pt_, pn_, sz_, ss_, i64_w, i32_w]; rfl
            refine pu_ (i := 4) (N := some 18) (v := ?_) (a' := ?_) HT_.out rfl rfl (.inl ⟨by rfl, ?_⟩) ?_ ?_; rotate_left
            · intro w'; go_simp; with_reducible rfl
            rotate_left
            · simp only [pt_, pn_, sz_, ss_, i64_w, i32_w]; rfl
            refine ta_ (i := 0) (N := some 14) (v := ?_) (a' := ?_) HT_.out HW_.out rfl rfl (.inl ⟨by rfl, ?_⟩) hHeld ?_ ?_; rotate_left
            · rintro w' ⟨s0, s1, s2, s3⟩; go_simp; with_reducible rfl
            rotate_left
            · simp only [pt_, pn_, sz_, ss_, i64_w, i32_w]; rfl
            refine ta_ (i := 5) (N := some 19) (v := ?_) (a' := ?_) HT_.out HW_.out rfl rfl (.inl ⟨by rfl, ?_⟩) hHeld ?_ ?_; rotate_left
            · rintro w' ⟨s0, s1, s2, s3⟩; go_simp; with_reducible rfl
            rotate_left
            · simp only [pt_, pn_, sz_, ss_, i64_w, i32_w]; rfl
            (refine one_ (i := 6) (N := some 20) #[true, true, true, true, true, true, true, false] rfl rfl (one_of HT_.out (by kernel_rfl)) (by decide) (fun K hK => ?_)); (refine goes_ Try.func47 (by kernel_rfl) rfl #[.agg #[.string a1_0, .string a1_1], .string ((rd_T25 l0 x6_1).f0)] (by rfl) rfl rfl (by (try simp only [List.map_toArray, List.map_cons, List.map_nil]); first | done | rfl | (simp only [List.length_drop, List.length_take]; rfl)) ?_); (with_reducible refine (catchmentref02_Holds.calls a1_0 a1_1 ((rd_T25 l0 x6_1).f0) true _ A8.out).mono ?_); (rintro e w11 ⟨rfl, hb⟩); (refine ⟨_, rfl, ?_⟩); (have n0_ := Aside0.mk (Kd.R_below (by (with_reducible repeat (first | apply Kd.R_alloc | apply Kd.R_drewN | apply Kd.R_drew)); exact HO_5.out) hb)); (have n1_ := Aside0.mk (blk_below (g := gb295) (o := .cells #[.string a1_0, .string a1_1] 48 (0, 0)) (by (with_reducible repeat (first | refine z1_ ?_ _ | refine z2_ ?_ | refine z3_ ?_ _)); exact BK295.out) hb)); (have n2_ := Aside0.mk (below_step (by repeat (first | (with_reducible first | exact HB.out | apply y1_ | apply y2_ | apply y3_ | refine y4_ ?_ GE295.out) | exact HB.out)) hb)); (clear HO_5 BK295 HB); (have HO_5 := n0_); (have BK295 := n1_)
            (have HB := n2_); (clear n0_ n1_ n2_); ((try clear hb)); ((try clear hb2)); ((try clear hk)); ((try clear hi)); (refine hK.out _ _ ⟨(blk_cell BK295.out 0).trans rfl, (blk_cell BK295.out 1).trans rfl, ((HB.out.cell (World.block_lt_of_cell? w _ hw299_0)).trans hw299_0), ((HB.out.cell (World.block_lt_of_cell? w _ hw299_1)).trans hw299_1)⟩ (fun hHeld => ?_)); (clear hK K); (refine norm_ (a' := ?_) ?_ ?_)
            rotate_left
            · show Act.put _ (some 20) _ = _
              (simp only [pt_, pn_, sz_, ss_, i64_w, i32_w]); (rfl)
            refine pu_ (i := 7) (N := some 21) (v := ?_) (a' := ?_) HT_.out rfl rfl (.inl ⟨by rfl, ?_⟩) ?_ ?_; rotate_left
            · intro w'; go_simp; with_reducible rfl
            rotate_left
            · simp only [pt_, pn_, sz_, ss_, i64_w, i32_w]; rfl
            (refine done_ (done_of HT_.out (by kernel_rfl)) ?_); (try go_wp2); (go_roundg k1)
            case measure => have := HK1.out; omega
            case rel => exact ⟨(x5_1), (wrap64 (x6_1 + 1)), (by first | rfl | (simp; done) | (simp [*]; done)), H', ⟨by have := HK1.out; omega⟩, ⟨by (with_reducible repeat (first | apply Kd.R_alloc | apply Kd.R_drewN | apply Kd.R_drew)); exact HO_5.out⟩, ⟨by (with_reducible repeat (first | refine z1_ ?_ _ | refine z2_ ?_ | refine z3_ ?_ _)); exact BK295.out⟩, ⟨by repeat (first | (with_reducible first | exact HB.out | apply y1_ | apply y2_ | apply y3_ | refine y4_ ?_ GE295.out) | exact HB.out)⟩⟩
          · replace c9 := Bool.eq_false_iff.mpr c9
            (subst c9); (have H1 : (if x5_1.length < 4398046511104 then (catchmentref10_Cut.l0 k1 l0 (x5_1 ++ [(⟨(rd_T25 l0 x6_1).f0, (rd_T25 l0 x6_1).f1⟩ : S25)]) (wrap64 (x6_1 + 1)) a1_0 a1_1) else (none)) = some r := by rw [if_neg (show ¬ (false = true) by decide)] at H; exact H); (clear H); (have H := H1); (clear H1); (by_cases c12 : x5_1.length < 4398046511104)
            · rw [if_pos c12] at H
              (have LMc12 := Aside0.mk c12); (clear c12); (obtain ⟨y302, hy302⟩ : ∃ y_ : List (S25), y_ = (x5_1 ++ [(⟨(rd_T25 l0 x6_1).f0, (rd_T25 l0 x6_1).f1⟩ : S25)]) := ⟨_, rfl⟩); (replace H : (catchmentref10_Cut.l0 k1 l0 y302 (wrap64 (x6_1 + 1)) a1_0 a1_1) = some r := by first | (rw [hy302]; with_reducible exact H) | (have H2_ := (Option.bind_some _ _).symm.trans H; rw [hy302]; with_reducible exact H2_) | (have H2_ := (Option.bind_some _ _).symm.trans H; with_reducible exact H2_) | with_reducible exact H | (rw [hy302]; exact H) | exact H); (have Ny302 := Aside0.mk hy302); (clear hy302); (have H' := Aside0.mk H); (clear H); (try go_wp2); (have n0_ := Aside0.mk (Kd.R_drew HO_5.out)); (have n1_ := Aside0.mk (blk_drew BK295.out)); (have n2_ := Aside0.mk (below_drew1 HB.out)); (clear HO_5 BK295 HB); (have HO_5 := n0_); (have BK295 := n1_); (have HB := n2_); (clear n0_ n1_ n2_); (have p299 : 0 ≤ (x6_1 : Int) := of_decide_eq_true (by first | (with_reducible assumption) | assumption)); (have q299 : x6_1 < (l0.length : Int) := of_decide_eq_true (by first | (with_reducible assumption) | assumption)); (obtain ⟨ad299, e299, hx299_0, hx299_1⟩ := at_T25 HR0.out x6_1 p299 q299); (have hw299_1 := hx299_1)
              (have hw299_0 := hx299_0); (cases e299); (replace hx299_0 := (HB.out.cell (World.block_lt_of_cell? w _ hx299_0)).trans hx299_0); (replace hx299_1 := (HB.out.cell (World.block_lt_of_cell? w _ hx299_1)).trans hx299_1); (replace p299 := eq_true p299); (replace q299 := eq_true q299); (refine start_ (n := 8) (S := fun w' => w'.cell? ⟨gb295, 0, none⟩ = some (.string a1_0) ∧ w'.cell? ⟨gb295, 1, none⟩ = some (.string a1_1) ∧ w'.cell? (ad299.add ((x6_1).toNat * 2)) = some (.string ((rd_T25 l0 x6_1).f0)) ∧ w'.cell? ⟨(ad299.add ((x6_1).toNat * 2)).block, (ad299.add ((x6_1).toNat * 2)).off + 1, none⟩ = some (.string ((rd_T25 l0 x6_1).f1))) (ds := []) #[false, false, false, false, false, false, false, false] (by kernel_rfl) rfl rfl ⟨(blk_cell BK295.out 0).trans rfl, (blk_cell BK295.out 1).trans rfl, ((HB.out.cell (World.block_lt_of_cell? w _ hw299_0)).trans hw299_0), ((HB.out.cell (World.block_lt_of_cell? w _ hw299_1)).trans hw299_1)⟩ (fun hHeld => ?_); refine with_tabW catchmentref10_Cut.tab5 catchmentref10_Cut.bits5 (fun HT_ HW_ => ?_)); (generalize wr.drew = w13 at HO_5 BK295 HB hx299_0 hx299_1 hHeld ⊢)
              refine pu_ (i := 1) (N := some 15) (v := ?_) (a' := ?_) HT_.out rfl rfl (.inl ⟨by rfl, ?_⟩) ?_ ?_; rotate_left
              · intro w'; go_simp; with_reducible rfl
              rotate_left
              · simp only [pt_, pn_, sz_, ss_, i64_w, i32_w]; rfl
              refine pu_ (i := 2) (N := some 16) (v := ?_) (a' := ?_) HT_.out rfl rfl (.inl ⟨by rfl, ?_⟩) ?_ ?_; rotate_left
              · intro w'; go_simp; with_reducible rfl
              rotate_left
              · simp only [pt_, pn_, sz_, ss_, i64_w, i32_w]; rfl
              refine pu_ (i := 3) (N := some 17) (v := ?_) (a' := ?_) HT_.out rfl rfl (.inl ⟨by rfl, ?_⟩) ?_ ?_; rotate_left
              · intro w'; go_simp; with_reducible rfl
              rotate_left
              · simp only [pt_, pn_, sz_, ss_, i64_w, i32_w]; rfl
              refine pu_ (i := 4) (N := some 18) (v := ?_) (a' := ?_) HT_.out rfl rfl (.inl ⟨by rfl, ?_⟩) ?_ ?_; rotate_left
              · intro w'; go_simp; with_reducible rfl
              rotate_left
              · simp only [pt_, pn_, sz_, ss_, i64_w, i32_w]; rfl
              refine ta_ (i := 0) (N := some 14) (v := ?_) (a' := ?_) HT_.out HW_.out rfl rfl (.inl ⟨by rfl, ?_⟩) hHeld ?_ ?_; rotate_left
              · rintro w' ⟨s0, s1, s2, s3⟩; go_simp; with_reducible rfl
              rotate_left
              · simp only [pt_, pn_, sz_, ss_, i64_w, i32_w]; rfl
              refine ta_ (i := 5) (N := some 19) (v := ?_) (a' := ?_) HT_.out HW_.out rfl rfl (.inl ⟨by rfl, ?_⟩) hHeld ?_ ?_; rotate_left
              · rintro w' ⟨s0, s1, s2, s3⟩; go_simp; with_reducible rfl
              rotate_left
              · simp only [pt_, pn_, sz_, ss_, i64_w, i32_w]; rfl
              (refine one_ (i := 6) (N := some 20) #[true, true, true, true, true, true, true, false] rfl rfl (one_of HT_.out (by kernel_rfl)) (by decide) (fun K hK => ?_)); (refine goes_ Try.func47 (by kernel_rfl) rfl #[.agg #[.string a1_0, .string a1_1], .string ((rd_T25 l0 x6_1).f0)] (by rfl) rfl rfl (by (try simp only [List.map_toArray, List.map_cons, List.map_nil]); first | done | rfl | (simp only [List.length_drop, List.length_take]; rfl)) ?_); (with_reducible refine (catchmentref02_Holds.calls a1_0 a1_1 ((rd_T25 l0 x6_1).f0) false _ A8.out).mono ?_); (rintro e w14 ⟨rfl, hb⟩); (refine ⟨_, rfl, ?_⟩); (have n0_ := Aside0.mk (Kd.R_below (by (with_reducible repeat (first | apply Kd.R_alloc | apply Kd.R_drewN | apply Kd.R_drew)); exact HO_5.out) hb)); (have n1_ := Aside0.mk (blk_below (g := gb295) (o := .cells #[.string a1_0, .string a1_1] 48 (0, 0)) (by (with_reducible repeat (first | refine z1_ ?_ _ | refine z2_ ?_ | refine z3_ ?_ _)); exact BK295.out) hb)); (have n2_ := Aside0.mk (below_step (by repeat (first | (with_reducible first | exact HB.out | apply y1_ | apply y2_ | apply y3_ | refine y4_ ?_ GE295.out) | exact HB.out)) hb)); (clear HO_5 BK295 HB); (have HO_5 := n0_); (have BK295 := n1_)
              (have HB := n2_); (clear n0_ n1_ n2_); ((try clear hb)); ((try clear hb2)); ((try clear hk)); ((try clear hi)); (refine hK.out _ _ ⟨(blk_cell BK295.out 0).trans rfl, (blk_cell BK295.out 1).trans rfl, ((HB.out.cell (World.block_lt_of_cell? w _ hw299_0)).trans hw299_0), ((HB.out.cell (World.block_lt_of_cell? w _ hw299_1)).trans hw299_1)⟩ (fun hHeld => ?_)); (clear hK K); (refine norm_ (a' := ?_) ?_ ?_)
              rotate_left
              · show Act.put _ (some 20) _ = _
                (simp only [pt_, pn_, sz_, ss_, i64_w, i32_w]); (rfl)
              refine pu_ (i := 7) (N := some 21) (v := ?_) (a' := ?_) HT_.out rfl rfl (.inl ⟨by rfl, ?_⟩) ?_ ?_; rotate_left
              · intro w'; go_simp; with_reducible rfl
              rotate_left
              · simp only [pt_, pn_, sz_, ss_, i64_w, i32_w]; rfl
              (refine done_ (done_of HT_.out (by kernel_rfl)) ?_); (have p301 : 0 ≤ (x6_1 : Int) := of_decide_eq_true (by first | (with_reducible assumption) | assumption)); (have q301 : x6_1 < (l0.length : Int) := of_decide_eq_true (by first | (with_reducible assumption) | assumption)); (obtain ⟨ad301, e301, hx301_0, hx301_1⟩ := at_T25 HR0.out x6_1 p301 q301); (obtain rfl : ad299 = ad301 := (by injection e301)); (replace hx301_0 := (HB.out.cell (World.block_lt_of_cell? w _ hx301_0)).trans hx301_0); (replace hx301_1 := (HB.out.cell (World.block_lt_of_cell? w _ hx301_1)).trans hx301_1); (replace p301 := eq_true p301); (replace q301 := eq_true q301)
              try go_wp2_with (first | ((with_reducible refine gate_builtin (b := .append) (xs := #[.tmp 22, .tmp 27]) rfl ?_); at_builtin; refine Kd.R_append k25 (w0 := w) w.heap.size rfl (.tmp 22) (.tmp 27) 22 25 (.agg #[(.string ⟨#[]⟩), (.string ⟨#[]⟩)]) 32 rfl Try.underlying22 info25 rfl (by decide) (by omega) u5 x5_1 (⟨(rd_T25 l0 x6_1).f0, (rd_T25 l0 x6_1).f1⟩ : S25) [.string ((rd_T25 l0 x6_1).f0), .string ((rd_T25 l0 x6_1).f1)] (fun _ => True) (fun _ => False) rfl rfl ?aP (fun _ hk => hk.elim) ?aF ?aO ?aB ?aS ?aL ?_; (case aP => exact k25_mkM _ _ _ (⟨(rd_T25 l0 x6_1).f0, (rd_T25 l0 x6_1).f1⟩ : S25)); (case aB => exact (by repeat (first | (with_reducible first | exact HB.out | apply y1_ | apply y2_ | apply y3_ | refine y4_ ?_ GE295.out) | exact HB.out))); (case aF => exact (fun _ _ => trivial)); (case aO => exact (by (with_reducible repeat (first | apply Kd.R_alloc | apply Kd.R_drewN | apply Kd.R_drew)); exact HO_5.out)); (case aS => exact (below_size (by repeat (first | (with_reducible first | exact HB.out | apply y1_ | apply y2_ | apply y3_ | refine y4_ ?_ GE295.out) | exact HB.out)))); (case aL => have := LMc12.out; omega); intro v303 w15 ho hb hg hat; rw [← Ny302.out] at ho; have n0_ := Aside0.mk (blk_grown (g := gb295) (o := .cells #[.string a1_0, .string a1_1] 48 (0, 0)) (by (with_reducible repeat (first | refine z1_ ?_ _ | refine z2_ ?_ | refine z3_ ?_ _)); exact BK295.out) hg (Kd.R_ne HO_5.out BK295.out (by decide))); have n1_ := Aside0.mk (hb); have n2_ := Aside0.mk (ho); clear BK295; clear HB; clear HO_5; have BK295 := n0_; have HB := n1_; have HO304 := n2_; clear n0_ n1_ n2_; clear ho hb hg hat))
              go_roundg k1
              case measure => have := HK1.out; omega
              case rel => exact ⟨(y302), (wrap64 (x6_1 + 1)), (by first | rfl | (simp; done) | (simp [*]; done)), H', ⟨by have := HK1.out; omega⟩, ⟨by (with_reducible repeat (first | apply Kd.R_alloc | apply Kd.R_drewN | apply Kd.R_drew)); exact HO304.out⟩, ⟨by (with_reducible repeat (first | refine z1_ ?_ _ | refine z2_ ?_ | refine z3_ ?_ _)); exact BK295.out⟩, ⟨by repeat (first | (with_reducible first | exact HB.out | apply y1_ | apply y2_ | apply y3_ | refine y4_ ?_ GE295.out) | exact HB.out)⟩⟩
            · rw [if_neg c12] at H
              exact absurd H (by simp)
        · rw [if_neg c7] at H
          exact absurd H (by simp)
      · rw [if_neg c6] at H
        (have c6b0 : decide (x6_1 < (l0.length : Int)) = false := decide_eq_false c6); (clear c6); (obtain rfl := Option.some.inj H); (go_wp2); (go_ret); (exact ⟨_, by first | rfl | (simp [errW_none, errW_some] <;> rfl) | (simp [*, errW_none, errW_some] <;> rfl), by (with_reducible repeat (first | apply Kd.R_alloc | apply Kd.R_drewN | apply Kd.R_drew)); exact HO_5.out, by repeat (first | (with_reducible first | exact HB.out | apply y1_ | apply y2_ | apply y3_ | refine y4_ ?_ GE295.out) | exact HB.out)⟩)

end Go.Proofs.Ytnklnjghecmihaa.H4
