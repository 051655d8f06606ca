-- written by a program of this session (wip/myprint.py), over the kit's printer and the session's own contracts
import Derived.Test.YtpfikmchimlneaaM3x0
import Derived.Test.YtpfikmchimlneaaM3P0
import Derived.Test.YtpfikmchimlneaaM3x69
import Derived.Test.YtpfikmchimlneaaM3x75
namespace Go.Proofs.Ytpfikmchimlneaa.M3
open Go.RowKit Go.Proofs.YtpfikmchimlneaaW.PrintWords Go.Proofs.YtpfikmchimlneaaW.PrintLast Go.Proofs.YtpfikmchimlneaaW.PrintMore Go.Proofs.YtpfikmchimlneaaW.Mine
attribute [local go_sem] max2_int min2_int max_two min_two max_three min_three max_four min_four max2_str min2_str binOp_gtr_str binOp_leq_str binOp_geq_str   -- for this text's walks alone
set_option linter.unusedVariables false
set_option linter.unusedSimpArgs false

/-! ### catchmentref05_Entries: function 39 -/
mutual
def catchmentref05_Entries.l0 : Nat → List (S69) → List (S85) → List (S85) → List ByteArray → Int → ByteArray → ByteArray → Option ((List (S85)))
  | 0, _, _, _, _, _, _, _ => none
  | k + 1, x0, x1, x7, x8, x9, x362000, x362001 => if x9 < (x8.length : Int) then (if 0 ≤ x9 then ((catchmentref05_Find.f k x1 (rdOf ByteArray.empty x8 x9)).bind fun bt369 => ((catchmentref05_Value.f k x0 (rdOf ByteArray.empty x8 x9) bt369.1 bt369.2).bind fun bt372 => (if bt372.2 = true then ((catchmentref02_Right.f x362000 x362001).bind fun t374 => (if t374 = true then ((catchmentref02_Holds.f x362000 x362001 (rdOf ByteArray.empty x8 x9)).bind fun t376 => (catchmentref05_Entries.j1 k x0 x1 x7 x8 x9 bt372.1 t376 x362000 x362001)) else (catchmentref05_Entries.j1 k x0 x1 x7 x8 x9 bt372.1 false x362000 x362001))) else (catchmentref05_Entries.j1 k x0 x1 x7 x8 x9 bt372.1 false x362000 x362001)))) else (none)) else (some x7)
def catchmentref05_Entries.j1 : Nat → List (S69) → List (S85) → List (S85) → List ByteArray → Int → ByteArray → Bool → ByteArray → ByteArray → Option ((List (S85)))
  | 0, _, _, _, _, _, _, _, _, _ => none
  | k + 1, x0, x1, x7, x8, x9, x10, x54, x362000, x362001 => if x54 = true then (if 0 ≤ x9 then (if x9 < (x8.length : Int) then (if x7.length < 4398046511104 then (catchmentref05_Entries.l0 k x0 x1 (x7 ++ [(⟨rdOf ByteArray.empty x8 x9, x10⟩ : S85)]) x8 (wrap64 (x9 + 1)) x362000 x362001) else (none)) else (none)) else (none)) else (catchmentref05_Entries.l0 k x0 x1 x7 x8 (wrap64 (x9 + 1)) x362000 x362001)
end
def catchmentref05_Entries.f (k : Nat) (l0 : List (S69)) (l1 : List (S85)) (a2_0 : ByteArray) (a2_1 : ByteArray) : Option ((List (S85))) := (catchmentref05_Named.f k l0 l1).bind fun t365 => (catchmentref05_Entries.l0 k l0 l1 (([] : List (S85))) t365 0 a2_0 a2_1)
theorem catchmentref05_Entries.mono_l : ∀ k, (∀ y0 y1 y2 y3 y4 y5 y6, LeO (catchmentref05_Entries.l0 k y0 y1 y2 y3 y4 y5 y6) (catchmentref05_Entries.l0 (k + 1) y0 y1 y2 y3 y4 y5 y6)) ∧ (∀ y0 y1 y2 y3 y4 y5 y6 y7 y8, LeO (catchmentref05_Entries.j1 k y0 y1 y2 y3 y4 y5 y6 y7 y8) (catchmentref05_Entries.j1 (k + 1) y0 y1 y2 y3 y4 y5 y6 y7 y8))
  | 0 => ⟨fun _ _ _ _ _ _ _ r h => by simp [catchmentref05_Entries.l0] at h, fun _ _ _ _ _ _ _ _ _ r h => by simp [catchmentref05_Entries.j1] at h⟩
  | k + 1 => by
    obtain ⟨ih0, ih1⟩ := catchmentref05_Entries.mono_l k
    refine ⟨?_, ?_⟩
    · intro y0 y1 y2 y3 y4 y5 y6
      unfold catchmentref05_Entries.l0
      repeat' first
      | (with_reducible exact ih0 _ _ _ _ _ _ _)
      | (with_reducible exact ih1 _ _ _ _ _ _ _ _ _)
      | (with_reducible exact catchmentref05_Find.mono _ _ _)
      | (with_reducible exact catchmentref05_Named.mono _ _ _)
      | (with_reducible exact catchmentref05_Value.mono _ _ _ _ _)
      | (with_reducible exact LeO.refl _)
      | (with_reducible exact LeO.none _)
      | (with_reducible refine LeO.ite ?_ ?_)
      | (with_reducible refine LeO.bind ?_ (fun _ => ?_))
      | exact ih0 _ _ _ _ _ _ _
      | exact ih1 _ _ _ _ _ _ _ _ _
      | exact catchmentref05_Find.mono _ _ _
      | exact catchmentref05_Named.mono _ _ _
      | exact catchmentref05_Value.mono _ _ _ _ _
      | exact LeO.none _
      | refine LeO.ite ?_ ?_
      | refine LeO.bind ?_ (fun _ => ?_)
    · intro y0 y1 y2 y3 y4 y5 y6 y7 y8
      unfold catchmentref05_Entries.j1
      repeat' first
      | (with_reducible exact ih0 _ _ _ _ _ _ _)
      | (with_reducible exact ih1 _ _ _ _ _ _ _ _ _)
      | (with_reducible exact catchmentref05_Find.mono _ _ _)
      | (with_reducible exact catchmentref05_Named.mono _ _ _)
      | (with_reducible exact catchmentref05_Value.mono _ _ _ _ _)
      | (with_reducible exact LeO.refl _)
      | (with_reducible exact LeO.none _)
      | (with_reducible refine LeO.ite ?_ ?_)
      | (with_reducible refine LeO.bind ?_ (fun _ => ?_))
      | exact ih0 _ _ _ _ _ _ _
      | exact ih1 _ _ _ _ _ _ _ _ _
      | exact catchmentref05_Find.mono _ _ _
      | exact catchmentref05_Named.mono _ _ _
      | exact catchmentref05_Value.mono _ _ _ _ _
      | exact LeO.none _
      | refine LeO.ite ?_ ?_
      | refine LeO.bind ?_ (fun _ => ?_)
theorem catchmentref05_Entries.mono : ∀ a0 a1 a2 a3 k, LeO (catchmentref05_Entries.f k a0 a1 a2 a3) (catchmentref05_Entries.f (k + 1) a0 a1 a2 a3) := by
  (intro a0 a1 a2 a3 k); (obtain ⟨ih0, ih1⟩ := catchmentref05_Entries.mono_l k); (unfold catchmentref05_Entries.f)
  repeat' first
      | (with_reducible exact ih0 _ _ _ _ _ _ _)
      | (with_reducible exact ih1 _ _ _ _ _ _ _ _ _)
      | (with_reducible exact catchmentref05_Find.mono _ _ _)
      | (with_reducible exact catchmentref05_Named.mono _ _ _)
      | (with_reducible exact catchmentref05_Value.mono _ _ _ _ _)
      | (with_reducible exact LeO.refl _)
      | (with_reducible exact LeO.none _)
      | (with_reducible refine LeO.ite ?_ ?_)
      | (with_reducible refine LeO.bind ?_ (fun _ => ?_))
      | exact ih0 _ _ _ _ _ _ _
      | exact ih1 _ _ _ _ _ _ _ _ _
      | exact catchmentref05_Find.mono _ _ _
      | exact catchmentref05_Named.mono _ _ _
      | exact catchmentref05_Value.mono _ _ _ _ _
      | exact LeO.none _
      | refine LeO.ite ?_ ?_
      | refine LeO.bind ?_ (fun _ => ?_)
def catchmentref05_Entries.T8 : Bool × List (List Nat × List Nat) := (true, [([], []), ([0], [0]), ([1], [1]), ([2, 1, 1], [1, 2]), ([1, 3], [1, 3]), ([4, 3], [4]), ([5], [5]), ([5], [5]), ([5], [5]), ([7, 8, 5], [5, 7, 8]), ([9, 5], [5, 9]), ([6, 10, 5, 5], [5, 6, 10]), ([5, 11], [5, 11])])
def catchmentref05_Entries.B8 : List Nat := [0, 1, 3, 7, 15, 31, 63, 63, 63, 447, 959, 2047, 4095]
theorem catchmentref05_Entries.tab8 : rtab .any (opsOf Try.f39 8) = catchmentref05_Entries.T8 := by kernel_rfl
theorem catchmentref05_Entries.bits8 : waitsOk catchmentref05_Entries.T8.2 catchmentref05_Entries.B8 = true := by kernel_rfl
set_option maxHeartbeats 8000000 in
set_option maxRecDepth 100000 in
theorem catchmentref05_Entries.calls (k : Nat) (A0 : Option Addr) (c0 : Nat) (l0 : List (S69)) (A1 : Option Addr) (c1 : Nat) (l1 : List (S85)) (a2_0 : ByteArray) (a2_1 : ByteArray) (r : List (S85)) (w : World) (hr0 : Kd.C k69 w A0 l0.length l0) (hc0 : l0.length ≤ c0) (hr1 : Kd.C k85 w A1 l1.length l1) (hc1 : l1.length ≤ c1) (h : catchmentref05_Entries.f k l0 l1 a2_0 a2_1 = some r) :
    Calls Try.prog 39 #[.slice A0 l0.length c0, .slice A1 l1.length c1, .agg #[.string a2_0, .string a2_1]] w fun e w' => ∃ v0_ : Value, e = .returned (v0_) ∧ Kd.R k85 85 w' w.heap.size (fun _ => True) v0_ r ∧ Below w.heap.size w w' := by
  (have hu78 := Try.underlying78); (have hu85 := Try.underlying85); (have HR0 := Aside0.mk hr0); (have HC0 := Aside0.mk hc0); (clear hr0 hc0); (have HR1 := Aside0.mk hr1); (have HC1 := Aside0.mk hc1); (clear hr1 hc1); (have HB := Aside0.mk (Below.refl w.heap.size w)); (have H : ((catchmentref05_Named.f k l0 l1).bind fun t365 => (catchmentref05_Entries.l0 k l0 l1 (([] : List (S85))) t365 0 a2_0 a2_1)) = some r := h); (clear h); (obtain ⟨y362, hy362⟩ : ∃ y_ : List (S85), y_ = (([] : List (S85))) := ⟨_, rfl⟩); (replace H : ((catchmentref05_Named.f k l0 l1).bind fun t365 => (catchmentref05_Entries.l0 k l0 l1 y362 t365 0 a2_0 a2_1)) = some r := by first | (rw [hy362]; with_reducible exact H) | (have H2_ := (Option.bind_some _ _).symm.trans H; rw [hy362]; with_reducible exact H2_) | (have H2_ := (Option.bind_some _ _).symm.trans H; with_reducible exact H2_) | with_reducible exact H | (rw [hy362]; exact H) | exact H); (have Ny362 := Aside0.mk hy362); (clear hy362); (replace H := Option.bind_eq_some_iff.mp H); (obtain ⟨t365, A40, H⟩ := H); (replace H : (catchmentref05_Entries.l0 k l0 l1 y362 t365 0 a2_0 a2_1) = some r := H); (have A4 := Aside0.mk A40); (clear A40); (have H' := Aside0.mk H)
  (clear H); (go_enter Try.func39, Try.ntmps39)
  go_wp2_with (first | ((with_reducible refine gate_dst (N := 5) rfl ?_); refine box_event ?hg (N := 5) ?hd (cs := #[.string a2_0, .string a2_1]) (t := 78) ?hr ?_; (case hd => rfl); (case hg => rfl); (case hr => first | (go_simp; done) | (go_simp; rfl)); intro gb361 hg w5 hbox hb; have n0_ := Aside0.mk (below_step (by repeat (first | (with_reducible first | exact HB.out | apply y1_ | apply y2_ | apply y3_) | exact HB.out)) hb); have n1_ := Aside0.mk (hbox); have n2_ := Aside0.mk ((by rw [hg]; exact (below_size (by repeat (first | (with_reducible first | exact HB.out | apply y1_ | apply y2_ | apply y3_) | exact HB.out))) : w.heap.size ≤ gb361)); have n3_ := Aside0.mk ((by rw [hg]; exact (below_size (by repeat (first | (with_reducible first | exact HB.out | apply y1_ | apply y2_ | apply y3_) | exact HB.out))) : w.heap.size ≤ gb361)); clear HB; have HB := n0_; have BK361 := n1_; have GW361 := n2_; have GE361 := n3_; clear n0_ n1_ n2_ n3_; clear hb hbox hg) | ((with_reducible refine gate_dst (N := 12) rfl ?_); refine Kd.R_lit k85 _ 85 ?hg (N := 12) ?hd (xs := ([] : List (S85))) (inner := []) (ok := fun _ => True) (okp := fun _ => True) ?hr ?hp (fun _ hk => hk) trivial (Below.refl _ _) (Nat.le_refl _) (by simp) ?_; (case hd => rfl); (case hg => rfl); (case hr => first | (go_simp; done) | (go_simp; rfl)); (case hp => exact (Reps.none _ _)); intro v363 w6 ho7 hb hg_ hnew_; clear hg_ hnew_; (first | rw [← Ny362.out] at ho7 | (simp only [Int.reduceToNat] at ho7; rw [← Ny362.out] at ho7)); have n0_ := Aside0.mk (Kd.R_lower ho7 (below_size (by repeat (first | (with_reducible first | exact HB.out | apply y1_ | apply y2_ | apply y3_ | refine y4_ ?_ GE361.out) | exact HB.out)))); have n1_ := Aside0.mk (blk_below (g := gb361) (o := .cells #[.string a2_0, .string a2_1] 78 (0, 0)) (by (with_reducible repeat (first | refine z1_ ?_ _ | refine z2_ ?_ | refine z3_ ?_ _)); exact BK361.out) hb); have n2_ := Aside0.mk (below_step (by repeat (first | (with_reducible first | exact HB.out | apply y1_ | apply y2_ | apply y3_ | refine y4_ ?_ GE361.out) | exact HB.out)) hb); clear BK361; clear HB; have HO364 := n0_; have BK361 := n1_; have HB := n2_; clear n0_ n1_ n2_; clear hb ho7) | ((with_reducible refine gate_callee (f := 77) rfl ?_); refine goesL_ (some 15) rfl rfl Try.func77 (by kernel_rfl) rfl #[.slice A0 l0.length c0, .slice A1 l1.length c1] rfl (by (try simp only [List.map_toArray, List.map_cons, List.map_nil]); first | done | rfl | (simp only [List.length_drop, List.length_take]; rfl)) ?_; (with_reducible refine (catchmentref05_Named.calls k _ _ l0 _ _ l1 t365 _ ?side1 ?side2 ?side3 ?side4 A4.out).mono ?_); (case side1 => repeat (first | exact (Kd.C_below HR0.out HB.out) | (with_reducible refine Kd.C_alloc ?_ _) | (with_reducible refine Kd.C_drewN ?_ _) | (with_reducible refine Kd.C_drew ?_))); (case side2 => exact HC0.out); (case side3 => repeat (first | exact (Kd.C_below HR1.out HB.out) | (with_reducible refine Kd.C_alloc ?_ _) | (with_reducible refine Kd.C_drewN ?_ _) | (with_reducible refine Kd.C_drew ?_))); (case side4 => exact HC1.out); rintro e w8 ⟨v366, rfl, ho0, hb⟩; refine ⟨_, rfl, ?_⟩; have n0_ := Aside0.mk (Kd.R_below (by (with_reducible repeat (first | apply Kd.R_alloc | apply Kd.R_drewN | apply Kd.R_drew)); exact HO364.out) hb); have n1_ := Aside0.mk (Kd.R_lower ho0 (below_size (by repeat (first | (with_reducible first | exact HB.out | apply y1_ | apply y2_ | apply y3_ | refine y4_ ?_ GE361.out) | exact HB.out)))); have n2_ := Aside0.mk (blk_below (g := gb361) (o := .cells #[.string a2_0, .string a2_1] 78 (0, 0)) (by (with_reducible repeat (first | refine z1_ ?_ _ | refine z2_ ?_ | refine z3_ ?_ _)); exact BK361.out) hb); have n3_ := Aside0.mk (below_step (by repeat (first | (with_reducible first | exact HB.out | apply y1_ | apply y2_ | apply y3_ | refine y4_ ?_ GE361.out) | exact HB.out)) hb); clear HO364; clear BK361; clear HB; have HO364 := n0_; have HO367 := n1_; have BK361 := n2_; have HB := n3_; clear n0_ n1_ n2_ n3_; (try clear hb); (try clear hb2); (try clear hk); (try clear hi); (try clear ho0)))
  (try simp only [Act.put, List.setIfInBounds_toArray, List.set_cons_zero, List.set_cons_succ])
  go_loopg [7, 9] k (fun kq v7 v9 w' => ∃ (x7_1 : List (S85)) (x9_1 : Int), v9 = .int .i64 x9_1 ∧ Aside0 (catchmentref05_Entries.l0 kq l0 l1 x7_1 t365 x9_1 a2_0 a2_1 = some r) ∧ Aside0 (kq ≤ k) ∧ Aside0 (Kd.R k85 85 w' w.heap.size (fun _ => True) v7 x7_1) ∧ Aside0 (Kd.R Kd.string 9 w' w.heap.size (fun _ => True) v366 t365) ∧ Aside0 (w'.heap[gb361]? = some (.cells #[.string a2_0, .string a2_1] 78 (0, 0))) ∧ Aside0 (Below w.heap.size w w'))
  case atStart => exact ⟨(y362), (0), (by first | rfl | (simp; done) | (simp [*]; done)), H', ⟨Nat.le_refl _⟩, ⟨by (with_reducible repeat (first | apply Kd.R_alloc | apply Kd.R_drewN | apply Kd.R_drew)); exact HO364.out⟩, ⟨by (with_reducible repeat (first | apply Kd.R_alloc | apply Kd.R_drewN | apply Kd.R_drew)); exact HO367.out⟩, ⟨by (with_reducible repeat (first | refine z1_ ?_ _ | refine z2_ ?_ | refine z3_ ?_ _)); exact BK361.out⟩, ⟨by repeat (first | (with_reducible first | exact HB.out | apply y1_ | apply y2_ | apply y3_ | refine y4_ ?_ GE361.out) | exact HB.out)⟩⟩
  case round =>
    (clear H'); (try clear c1); (try clear p2); (try clear c3); (try clear c7); (obtain ⟨x7_1, x9_1, rfl, HA, HK1, HO_7, HO_8, BK361, HB⟩ := hrel)
    cases gk with
    | zero => exact absurd HA.out (by simp [catchmentref05_Entries.l0])
    | succ k1 =>
      (have H := HA.out); (clear HA); (simp only [catchmentref05_Entries.l0] at H); (by_cases c9 : x9_1 < (t365.length : Int))
      · rw [if_pos c9] at H
        (have c9b0 : decide (x9_1 < (t365.length : Int)) = true := decide_eq_true c9); (clear c9); (by_cases c10 : 0 ≤ x9_1)
        · rw [if_pos c10] at H
          (have c10b0 : decide (0 ≤ x9_1) = true := decide_eq_true c10); (clear c10); (replace H := Option.bind_eq_some_iff.mp H); (obtain ⟨⟨t369, t370⟩, A110, H⟩ := H); (replace H : ((catchmentref05_Value.f k1 l0 (rdOf ByteArray.empty t365 x9_1) t369 t370).bind fun bt372 => (if bt372.2 = true then ((catchmentref02_Right.f a2_0 a2_1).bind fun t374 => (if t374 = true then ((catchmentref02_Holds.f a2_0 a2_1 (rdOf ByteArray.empty t365 x9_1)).bind fun t376 => (catchmentref05_Entries.j1 k1 l0 l1 x7_1 t365 x9_1 bt372.1 t376 a2_0 a2_1)) else (catchmentref05_Entries.j1 k1 l0 l1 x7_1 t365 x9_1 bt372.1 false a2_0 a2_1))) else (catchmentref05_Entries.j1 k1 l0 l1 x7_1 t365 x9_1 bt372.1 false a2_0 a2_1))) = some r := H); (have A11 := Aside0.mk A110); (clear A110); (replace H := Option.bind_eq_some_iff.mp H); (obtain ⟨⟨t372, t373⟩, A120, H⟩ := H)
          (replace H : (if t373 = true then ((catchmentref02_Right.f a2_0 a2_1).bind fun t374 => (if t374 = true then ((catchmentref02_Holds.f a2_0 a2_1 (rdOf ByteArray.empty t365 x9_1)).bind fun t376 => (catchmentref05_Entries.j1 k1 l0 l1 x7_1 t365 x9_1 t372 t376 a2_0 a2_1)) else (catchmentref05_Entries.j1 k1 l0 l1 x7_1 t365 x9_1 t372 false a2_0 a2_1))) else (catchmentref05_Entries.j1 k1 l0 l1 x7_1 t365 x9_1 t372 false a2_0 a2_1)) = some r := H); (have A12 := Aside0.mk A120); (clear A120); (have HC13 := Aside0.mk H); (clear H); (obtain ⟨Ao14, co14, eo14⟩ := Kd.R_slice HO_8.out); (subst eo14); (have p368 : 0 ≤ (x9_1 : Int) := of_decide_eq_true (by first | (with_reducible assumption) | assumption)); (have q368 : x9_1 < (t365.length : Int) := of_decide_eq_true (by first | (with_reducible assumption) | assumption)); (obtain ⟨ad368, e368, hx368_0⟩ := Kd.at_string (Kd.R_reads' HO_8.out).2.2 x9_1 p368 q368); (cases e368); (replace p368 := eq_true p368); (replace q368 := eq_true q368)
          go_upto_region 8 with (first | ((with_reducible refine gate_callee (f := 43) rfl ?_); refine goesL_ (some 28) rfl rfl Try.func43 (by kernel_rfl) rfl #[.slice A1 l1.length c1, .string (rdOf ByteArray.empty t365 x9_1)] rfl (by (try simp only [List.map_toArray, List.map_cons, List.map_nil]); first | done | rfl | (simp only [List.length_drop, List.length_take]; rfl)) ?_; (with_reducible refine (catchmentref05_Find.calls k1 _ _ l1 (rdOf ByteArray.empty t365 x9_1) t369 t370 _ ?side1 ?side2 A11.out).mono ?_); (case side1 => repeat (first | exact (Kd.C_below HR1.out HB.out) | (with_reducible refine Kd.C_alloc ?_ _) | (with_reducible refine Kd.C_drewN ?_ _) | (with_reducible refine Kd.C_drew ?_))); (case side2 => exact HC1.out); rintro e w' ⟨rfl, ⟨nd, rfl⟩⟩; refine ⟨_, rfl, ?_⟩; have p371 : 0 ≤ (x9_1 : Int) := of_decide_eq_true (by first | (with_reducible assumption) | assumption); have q371 : x9_1 < (t365.length : Int) := of_decide_eq_true (by first | (with_reducible assumption) | assumption); obtain ⟨ad371, e371, hx371_0⟩ := Kd.at_string (Kd.R_reads' HO_8.out).2.2 x9_1 p371 q371; obtain rfl : ad368 = ad371 := (by injection e371); replace p371 := eq_true p371; replace q371 := eq_true q371) | ((with_reducible refine gate_callee (f := 78) rfl ?_); refine goesL_ (some 39) rfl rfl Try.func78 (by kernel_rfl) rfl #[.slice A0 l0.length c0, .string (rdOf ByteArray.empty t365 x9_1), .string t369, .bool t370] rfl (by (try simp only [List.map_toArray, List.map_cons, List.map_nil]); first | done | rfl | (simp only [List.length_drop, List.length_take]; rfl)) ?_; (with_reducible refine (catchmentref05_Value.calls k1 _ _ l0 (rdOf ByteArray.empty t365 x9_1) t369 t370 t372 t373 _ ?side1 ?side2 A12.out).mono ?_); (case side1 => repeat (first | exact (Kd.C_below HR0.out (by repeat (first | (with_reducible first | exact HB.out | apply y1_ | apply y2_ | apply y3_ | refine y4_ ?_ GE361.out) | exact HB.out))) | (with_reducible refine Kd.C_alloc ?_ _) | (with_reducible refine Kd.C_drewN ?_ _) | (with_reducible refine Kd.C_drew ?_))); (case side2 => exact HC0.out); rintro e w15 ⟨rfl, hb⟩; refine ⟨_, rfl, ?_⟩; have n0_ := Aside0.mk (Kd.R_below (by (with_reducible repeat (first | apply Kd.R_alloc | apply Kd.R_drewN | apply Kd.R_drew)); exact HO_7.out) hb); have n1_ := Aside0.mk (Kd.R_below (by (with_reducible repeat (first | apply Kd.R_alloc | apply Kd.R_drewN | apply Kd.R_drew)); exact HO_8.out) hb); have n2_ := Aside0.mk (blk_below (g := gb361) (o := .cells #[.string a2_0, .string a2_1] 78 (0, 0)) (by (with_reducible repeat (first | refine z1_ ?_ _ | refine z2_ ?_ | refine z3_ ?_ _)); exact BK361.out) hb); have n3_ := Aside0.mk (below_step (by repeat (first | (with_reducible first | exact HB.out | apply y1_ | apply y2_ | apply y3_ | refine y4_ ?_ GE361.out) | exact HB.out)) hb); clear HO_7; clear HO_8; clear BK361; clear HB; have HO_7 := n0_; have HO_8 := n1_; have BK361 := n2_; have HB := n3_; clear n0_ n1_ n2_ n3_; (try clear hb); (try clear hb2); (try clear hk); (try clear hi)))
          ((try simp only [Act.put, List.setIfInBounds_toArray, List.set_cons_zero, List.set_cons_succ])); (go_cut [54] (fun v54 wc => ∃ (kq : Nat) (x54_12 : Bool), v54 = .bool x54_12 ∧ Aside0 (catchmentref05_Entries.j1 kq l0 l1 x7_1 t365 x9_1 t372 x54_12 a2_0 a2_1 = some r) ∧ Aside0 (kq ≤ k1) ∧ Aside0 (Kd.R k85 85 wc w.heap.size (fun _ => True) u7 x7_1) ∧ Aside0 (Kd.R Kd.string 9 wc w.heap.size (fun _ => True) (.slice (some ad368) t365.length co14) t365) ∧ Aside0 (wc.heap[gb361]? = some (.cells #[.string a2_0, .string a2_1] 78 (0, 0))) ∧ Aside0 (Below w.heap.size w wc)))
          case first =>
            (have H := HC13.out); (clear HC13); (by_cases c16 : t373 = true)
            · subst c16
              (have H1 : ((catchmentref02_Right.f a2_0 a2_1).bind fun t374 => (if t374 = true then ((catchmentref02_Holds.f a2_0 a2_1 (rdOf ByteArray.empty t365 x9_1)).bind fun t376 => (catchmentref05_Entries.j1 k1 l0 l1 x7_1 t365 x9_1 t372 t376 a2_0 a2_1)) else (catchmentref05_Entries.j1 k1 l0 l1 x7_1 t365 x9_1 t372 false a2_0 a2_1))) = some r := by rw [if_pos rfl] at H; exact H); (clear H); (have H := H1); (clear H1); (replace H := Option.bind_eq_some_iff.mp H); (obtain ⟨t374, A170, H⟩ := H); (replace H : (if t374 = true then ((catchmentref02_Holds.f a2_0 a2_1 (rdOf ByteArray.empty t365 x9_1)).bind fun t376 => (catchmentref05_Entries.j1 k1 l0 l1 x7_1 t365 x9_1 t372 t376 a2_0 a2_1)) else (catchmentref05_Entries.j1 k1 l0 l1 x7_1 t365 x9_1 t372 false a2_0 a2_1)) = some r := H); (have A17 := Aside0.mk A170); (clear A170); (by_cases c18 : t374 = true)
              · subst c18
                (have H1 : ((catchmentref02_Holds.f a2_0 a2_1 (rdOf ByteArray.empty t365 x9_1)).bind fun t376 => (catchmentref05_Entries.j1 k1 l0 l1 x7_1 t365 x9_1 t372 t376 a2_0 a2_1)) = some r := by rw [if_pos rfl] at H; exact H); (clear H); (have H := H1); (clear H1); (replace H := Option.bind_eq_some_iff.mp H); (obtain ⟨t376, A190, H⟩ := H); (replace H : (catchmentref05_Entries.j1 k1 l0 l1 x7_1 t365 x9_1 t372 t376 a2_0 a2_1) = some r := H); (have A19 := Aside0.mk A190); (clear A190); (have H' := Aside0.mk H); (clear H); (try go_wp2); (have n0_ := Aside0.mk (Kd.R_drew HO_7.out)); (have n1_ := Aside0.mk (Kd.R_drew HO_8.out)); (have n2_ := Aside0.mk (blk_drew BK361.out)); (have n3_ := Aside0.mk (below_drew1 HB.out)); (clear HO_7 HO_8 BK361 HB); (have HO_7 := n0_); (have HO_8 := n1_); (have BK361 := n2_); (have HB := n3_); (clear n0_ n1_ n2_ n3_); (have p375 : 0 ≤ (x9_1 : Int) := of_decide_eq_true (by first | (with_reducible assumption) | assumption)); (have q375 : x9_1 < (t365.length : Int) := of_decide_eq_true (by first | (with_reducible assumption) | assumption)); (obtain ⟨ad375, e375, hx375_0⟩ := Kd.at_string (Kd.R_reads' HO_8.out).2.2 x9_1 p375 q375)
                (obtain rfl : ad368 = ad375 := (by injection e375)); (replace p375 := eq_true p375); (replace q375 := eq_true q375); (refine start_ (n := 13) (S := fun w' => w'.cell? ⟨gb361, 0, none⟩ = some (.string a2_0) ∧ w'.cell? ⟨gb361, 1, none⟩ = some (.string a2_1) ∧ w'.cell? (ad368.add (x9_1).toNat) = some (.string (rdOf ByteArray.empty t365 x9_1))) (ds := []) #[false, false, false, false, false, false, false, false, false, false, false, false, false] (by kernel_rfl) rfl rfl ⟨(blk_cell BK361.out 0).trans rfl, (blk_cell BK361.out 1).trans rfl, hx375_0⟩ (fun hHeld => ?_); refine with_tabW catchmentref05_Entries.tab8 catchmentref05_Entries.bits8 (fun HT_ HW_ => ?_)); (generalize w15.drew = w20 at HO_7 HO_8 BK361 HB hx375_0 hHeld ⊢); (refine pu_ (i := 0) (N := some 42) (v := ?_) (a' := ?_) HT_.out rfl rfl (.inl ⟨by rfl, ?_⟩) ?_ ?_; rotate_left)
                · intro w'; go_simp; with_reducible rfl
                rotate_left
                · simp only [pt_, pn_, sz_, ss_, i64_w, i32_w]; rfl
                refine pu_ (i := 1) (N := some 43) (v := ?_) (a' := ?_) HT_.out rfl rfl (.inl ⟨by rfl, ?_⟩) ?_ ?_; rotate_left
                · intro w'; go_simp; with_reducible rfl
                rotate_left
                · simp only [pt_, pn_, sz_, ss_, i64_w, i32_w]; rfl
                refine ta_ (i := 2) (N := some 44) (v := ?_) (a' := ?_) HT_.out HW_.out rfl rfl (.inl ⟨by rfl, ?_⟩) hHeld ?_ ?_; rotate_left
                · rintro w' ⟨s0, s1, s2⟩; go_simp; with_reducible rfl
                rotate_left
                · simp only [pt_, pn_, sz_, ss_, i64_w, i32_w]; rfl
                (refine one_ (i := 3) (N := some 45) #[true, true, true, true, false, false, false, false, false, false, false, false, false] rfl rfl (one_of HT_.out (by kernel_rfl)) (by decide) (fun K hK => ?_)); (refine goes_ Try.func79 (by kernel_rfl) rfl #[.agg #[.string a2_0, .string a2_1]] (by rfl) rfl rfl (by (try simp only [List.map_toArray, List.map_cons, List.map_nil]); first | done | rfl | (simp only [List.length_drop, List.length_take]; rfl)) ?_); (with_reducible refine (catchmentref02_Right.calls a2_0 a2_1 true _ A17.out).mono ?_); (rintro e w21 ⟨rfl, hb⟩); (have HS2_ := (hb.cell (World.block_lt_of_cell? _ _ (hHeld.2.2))).trans (hHeld.2.2)); (refine ⟨_, rfl, ?_⟩); (have n0_ := Aside0.mk (Kd.R_below (by (with_reducible repeat (first | apply Kd.R_alloc | apply Kd.R_drewN | apply Kd.R_drew)); exact HO_7.out) hb)); (have n1_ := Aside0.mk (Kd.R_below (by (with_reducible repeat (first | apply Kd.R_alloc | apply Kd.R_drewN | apply Kd.R_drew)); exact HO_8.out) hb)); (have n2_ := Aside0.mk (blk_below (g := gb361) (o := .cells #[.string a2_0, .string a2_1] 78 (0, 0)) (by (with_reducible repeat (first | refine z1_ ?_ _ | refine z2_ ?_ | refine z3_ ?_ _)); exact BK361.out) hb))
                (have n3_ := Aside0.mk (below_step (by repeat (first | (with_reducible first | exact HB.out | apply y1_ | apply y2_ | apply y3_ | refine y4_ ?_ GE361.out) | exact HB.out)) hb)); (clear HO_7 HO_8 BK361 HB); (have HO_7 := n0_); (have HO_8 := n1_); (have BK361 := n2_); (have HB := n3_); (clear n0_ n1_ n2_ n3_); ((try clear hb)); ((try clear hb2)); ((try clear hk)); ((try clear hi)); (refine hK.out _ _ ⟨(blk_cell BK361.out 0).trans rfl, (blk_cell BK361.out 1).trans rfl, HS2_⟩ (fun hHeld => ?_)); (clear hK K); (refine norm_ (a' := ?_) ?_ ?_)
                rotate_left
                · show Act.put _ (some 45) _ = _
                  (simp only [pt_, pn_, sz_, ss_, i64_w, i32_w]); (rfl)
                refine pu_ (i := 4) (N := some 46) (v := ?_) (a' := ?_) HT_.out rfl rfl (.inl ⟨by rfl, ?_⟩) ?_ ?_; rotate_left
                · intro w'; go_simp; with_reducible rfl
                rotate_left
                · simp only [pt_, pn_, sz_, ss_, i64_w, i32_w]; rfl
                refine pu_ (i := 5) (N := some 47) (v := ?_) (a' := ?_) HT_.out rfl rfl (.inl ⟨by rfl, ?_⟩) ?_ ?_; rotate_left
                · intro w'; go_simp; with_reducible rfl
                rotate_left
                · simp only [pt_, pn_, sz_, ss_, i64_w, i32_w]; rfl
                refine pu_ (i := 7) (N := some 49) (v := ?_) (a' := ?_) HT_.out rfl rfl (.inl ⟨by rfl, ?_⟩) ?_ ?_; rotate_left
                · intro w'; go_simp; with_reducible rfl
                rotate_left
                · simp only [pt_, pn_, sz_, ss_, i64_w, i32_w]; rfl
                refine pu_ (i := 8) (N := some 50) (v := ?_) (a' := ?_) HT_.out rfl rfl (.inl ⟨by rfl, ?_⟩) ?_ ?_; rotate_left
                · intro w'; go_simp; with_reducible rfl
                rotate_left
                · simp only [pt_, pn_, sz_, ss_, i64_w, i32_w]; rfl
                refine pu_ (i := 9) (N := some 51) (v := ?_) (a' := ?_) HT_.out rfl rfl (.inl ⟨by rfl, ?_⟩) ?_ ?_; rotate_left
                · intro w'; go_simp; with_reducible rfl
                rotate_left
                · simp only [pt_, pn_, sz_, ss_, i64_w, i32_w]; rfl
                refine ta_ (i := 6) (N := some 48) (v := ?_) (a' := ?_) HT_.out HW_.out rfl rfl (.inl ⟨by rfl, ?_⟩) hHeld ?_ ?_; rotate_left
                · rintro w' ⟨s0, s1, s2⟩; go_simp; with_reducible rfl
                rotate_left
                · simp only [pt_, pn_, sz_, ss_, i64_w, i32_w]; rfl
                refine ta_ (i := 10) (N := some 52) (v := ?_) (a' := ?_) HT_.out HW_.out rfl rfl (.inl ⟨by rfl, ?_⟩) hHeld ?_ ?_; rotate_left
                · rintro w' ⟨s0, s1, s2⟩; go_simp; with_reducible rfl
                rotate_left
                · simp only [pt_, pn_, sz_, ss_, i64_w, i32_w]; rfl
                (refine one_ (i := 11) (N := some 53) #[true, true, true, true, true, true, true, true, true, true, true, true, false] rfl rfl (one_of HT_.out (by kernel_rfl)) (by decide) (fun K hK => ?_)); (refine goes_ Try.func80 (by kernel_rfl) rfl #[.agg #[.string a2_0, .string a2_1], .string (rdOf ByteArray.empty t365 x9_1)] (by rfl) rfl rfl (by (try simp only [List.map_toArray, List.map_cons, List.map_nil]); first | done | rfl | (simp only [List.length_drop, List.length_take]; rfl)) ?_); (with_reducible refine (catchmentref02_Holds.calls a2_0 a2_1 (rdOf ByteArray.empty t365 x9_1) t376 _ A19.out).mono ?_); (rintro e w22 ⟨rfl, hb⟩); (have HS2_ := (hb.cell (World.block_lt_of_cell? _ _ (hHeld.2.2))).trans (hHeld.2.2)); (refine ⟨_, rfl, ?_⟩); (have n0_ := Aside0.mk (Kd.R_below (by (with_reducible repeat (first | apply Kd.R_alloc | apply Kd.R_drewN | apply Kd.R_drew)); exact HO_7.out) hb)); (have n1_ := Aside0.mk (Kd.R_below (by (with_reducible repeat (first | apply Kd.R_alloc | apply Kd.R_drewN | apply Kd.R_drew)); exact HO_8.out) hb))
                (have n2_ := Aside0.mk (blk_below (g := gb361) (o := .cells #[.string a2_0, .string a2_1] 78 (0, 0)) (by (with_reducible repeat (first | refine z1_ ?_ _ | refine z2_ ?_ | refine z3_ ?_ _)); exact BK361.out) hb)); (have n3_ := Aside0.mk (below_step (by repeat (first | (with_reducible first | exact HB.out | apply y1_ | apply y2_ | apply y3_ | refine y4_ ?_ GE361.out) | exact HB.out)) hb)); (clear HO_7 HO_8 BK361 HB); (have HO_7 := n0_); (have HO_8 := n1_); (have BK361 := n2_); (have HB := n3_); (clear n0_ n1_ n2_ n3_); ((try clear hb)); ((try clear hb2)); ((try clear hk)); ((try clear hi)); (refine hK.out _ _ ⟨(blk_cell BK361.out 0).trans rfl, (blk_cell BK361.out 1).trans rfl, HS2_⟩ (fun hHeld => ?_)); (clear hK K); (refine norm_ (a' := ?_) ?_ ?_)
                rotate_left
                · show Act.put _ (some 53) _ = _
                  (simp only [pt_, pn_, sz_, ss_, i64_w, i32_w]); (rfl)
                refine pu_ (i := 12) (N := some 54) (v := ?_) (a' := ?_) HT_.out rfl rfl (.inl ⟨by rfl, ?_⟩) ?_ ?_; rotate_left
                · intro w'; go_simp; with_reducible rfl
                rotate_left
                · simp only [pt_, pn_, sz_, ss_, i64_w, i32_w]; rfl
                (refine done_ (done_of HT_.out (by kernel_rfl)) ?_); (try go_wp2); (go_meet)
                case rel => exact ⟨_, (t376), (by first | rfl | (simp; done) | (simp [*]; done)), H', ⟨by have := HK1.out; first | omega | exact Nat.le_refl _⟩, ⟨by (with_reducible repeat (first | apply Kd.R_alloc | apply Kd.R_drewN | apply Kd.R_drew)); exact HO_7.out⟩, ⟨by (with_reducible repeat (first | apply Kd.R_alloc | apply Kd.R_drewN | apply Kd.R_drew)); exact HO_8.out⟩, ⟨by (with_reducible repeat (first | refine z1_ ?_ _ | refine z2_ ?_ | refine z3_ ?_ _)); exact BK361.out⟩, ⟨by repeat (first | (with_reducible first | exact HB.out | apply y1_ | apply y2_ | apply y3_ | refine y4_ ?_ GE361.out) | exact HB.out)⟩⟩
              · replace c18 := Bool.eq_false_iff.mpr c18
                (subst c18); (have H1 : (catchmentref05_Entries.j1 k1 l0 l1 x7_1 t365 x9_1 t372 false a2_0 a2_1) = some r := by rw [if_neg (show ¬ (false = true) by decide)] at H; exact H); (clear H); (have H := H1); (clear H1); (have H' := Aside0.mk H); (clear H); (try go_wp2); (have n0_ := Aside0.mk (Kd.R_drew HO_7.out)); (have n1_ := Aside0.mk (Kd.R_drew HO_8.out)); (have n2_ := Aside0.mk (blk_drew BK361.out)); (have n3_ := Aside0.mk (below_drew1 HB.out)); (clear HO_7 HO_8 BK361 HB); (have HO_7 := n0_); (have HO_8 := n1_); (have BK361 := n2_); (have HB := n3_); (clear n0_ n1_ n2_ n3_); (refine start_ (n := 13) (S := fun w' => w'.cell? ⟨gb361, 0, none⟩ = some (.string a2_0) ∧ w'.cell? ⟨gb361, 1, none⟩ = some (.string a2_1)) (ds := []) #[false, false, false, false, false, false, false, false, false, false, false, false, false] (by kernel_rfl) rfl rfl ⟨(blk_cell BK361.out 0).trans rfl, (blk_cell BK361.out 1).trans rfl⟩ (fun hHeld => ?_); refine with_tabW catchmentref05_Entries.tab8 catchmentref05_Entries.bits8 (fun HT_ HW_ => ?_)); (generalize w15.drew = w23 at HO_7 HO_8 BK361 HB hHeld ⊢)
                refine pu_ (i := 0) (N := some 42) (v := ?_) (a' := ?_) HT_.out rfl rfl (.inl ⟨by rfl, ?_⟩) ?_ ?_; rotate_left
                · intro w'; go_simp; with_reducible rfl
                rotate_left
                · simp only [pt_, pn_, sz_, ss_, i64_w, i32_w]; rfl
                refine pu_ (i := 1) (N := some 43) (v := ?_) (a' := ?_) HT_.out rfl rfl (.inl ⟨by rfl, ?_⟩) ?_ ?_; rotate_left
                · intro w'; go_simp; with_reducible rfl
                rotate_left
                · simp only [pt_, pn_, sz_, ss_, i64_w, i32_w]; rfl
                refine ta_ (i := 2) (N := some 44) (v := ?_) (a' := ?_) HT_.out HW_.out rfl rfl (.inl ⟨by rfl, ?_⟩) hHeld ?_ ?_; rotate_left
                · rintro w' ⟨s0, s1⟩; go_simp; with_reducible rfl
                rotate_left
                · simp only [pt_, pn_, sz_, ss_, i64_w, i32_w]; rfl
                (refine one_ (i := 3) (N := some 45) #[true, true, true, true, false, false, false, false, false, false, false, false, false] rfl rfl (one_of HT_.out (by kernel_rfl)) (by decide) (fun K hK => ?_)); (refine goes_ Try.func79 (by kernel_rfl) rfl #[.agg #[.string a2_0, .string a2_1]] (by rfl) rfl rfl (by (try simp only [List.map_toArray, List.map_cons, List.map_nil]); first | done | rfl | (simp only [List.length_drop, List.length_take]; rfl)) ?_); (with_reducible refine (catchmentref02_Right.calls a2_0 a2_1 false _ A17.out).mono ?_); (rintro e w24 ⟨rfl, hb⟩); (refine ⟨_, rfl, ?_⟩); (have n0_ := Aside0.mk (Kd.R_below (by (with_reducible repeat (first | apply Kd.R_alloc | apply Kd.R_drewN | apply Kd.R_drew)); exact HO_7.out) hb)); (have n1_ := Aside0.mk (Kd.R_below (by (with_reducible repeat (first | apply Kd.R_alloc | apply Kd.R_drewN | apply Kd.R_drew)); exact HO_8.out) hb)); (have n2_ := Aside0.mk (blk_below (g := gb361) (o := .cells #[.string a2_0, .string a2_1] 78 (0, 0)) (by (with_reducible repeat (first | refine z1_ ?_ _ | refine z2_ ?_ | refine z3_ ?_ _)); exact BK361.out) hb))
                (have n3_ := Aside0.mk (below_step (by repeat (first | (with_reducible first | exact HB.out | apply y1_ | apply y2_ | apply y3_ | refine y4_ ?_ GE361.out) | exact HB.out)) hb)); (clear HO_7 HO_8 BK361 HB); (have HO_7 := n0_); (have HO_8 := n1_); (have BK361 := n2_); (have HB := n3_); (clear n0_ n1_ n2_ n3_); ((try clear hb)); ((try clear hb2)); ((try clear hk)); ((try clear hi)); (refine hK.out _ _ ⟨(blk_cell BK361.out 0).trans rfl, (blk_cell BK361.out 1).trans rfl⟩ (fun hHeld => ?_)); (clear hK K); (refine norm_ (a' := ?_) ?_ ?_)
                rotate_left
                · show Act.put _ (some 45) _ = _
                  (simp only [pt_, pn_, sz_, ss_, i64_w, i32_w]); (rfl)
                refine pu_ (i := 4) (N := some 46) (v := ?_) (a' := ?_) HT_.out rfl rfl (.inl ⟨by rfl, ?_⟩) ?_ ?_; rotate_left
                · intro w'; go_simp; with_reducible rfl
                rotate_left
                · simp only [pt_, pn_, sz_, ss_, i64_w, i32_w]; rfl
                refine pu_ (i := 5) (N := some 47) (v := ?_) (a' := ?_) HT_.out rfl rfl (.inl ⟨by rfl, ?_⟩) ?_ ?_; rotate_left
                · intro w'; go_simp; with_reducible rfl
                rotate_left
                · simp only [pt_, pn_, sz_, ss_, i64_w, i32_w]; rfl
                refine pu_ (i := 6) (N := some 48) (v := undef) (a' := ?_) HT_.out rfl rfl (.inr ⟨by rfl, rfl⟩) ?_ ?_; rotate_left
                · simp only [pt_, pn_, sz_, ss_, i64_w, i32_w]; rfl
                refine pu_ (i := 7) (N := some 49) (v := undef) (a' := ?_) HT_.out rfl rfl (.inr ⟨by rfl, rfl⟩) ?_ ?_; rotate_left
                · simp only [pt_, pn_, sz_, ss_, i64_w, i32_w]; rfl
                refine pu_ (i := 8) (N := some 50) (v := undef) (a' := ?_) HT_.out rfl rfl (.inr ⟨by rfl, rfl⟩) ?_ ?_; rotate_left
                · simp only [pt_, pn_, sz_, ss_, i64_w, i32_w]; rfl
                refine pu_ (i := 9) (N := some 51) (v := undef) (a' := ?_) HT_.out rfl rfl (.inr ⟨by rfl, rfl⟩) ?_ ?_; rotate_left
                · simp only [pt_, pn_, sz_, ss_, i64_w, i32_w]; rfl
                refine pu_ (i := 10) (N := some 52) (v := undef) (a' := ?_) HT_.out rfl rfl (.inr ⟨by rfl, rfl⟩) ?_ ?_; rotate_left
                · simp only [pt_, pn_, sz_, ss_, i64_w, i32_w]; rfl
                refine pu_ (i := 11) (N := some 53) (v := undef) (a' := ?_) HT_.out rfl rfl (.inr ⟨by rfl, rfl⟩) ?_ ?_; rotate_left
                · simp only [pt_, pn_, sz_, ss_, i64_w, i32_w]; rfl
                refine pu_ (i := 12) (N := some 54) (v := ?_) (a' := ?_) HT_.out rfl rfl (.inl ⟨by rfl, ?_⟩) ?_ ?_; rotate_left
                · intro w'; go_simp; with_reducible rfl
                rotate_left
                · simp only [pt_, pn_, sz_, ss_, i64_w, i32_w]; rfl
                (refine done_ (done_of HT_.out (by kernel_rfl)) ?_); (try go_wp2); (go_meet)
                case rel => exact ⟨_, (false), (by first | rfl | (simp; done) | (simp [*]; done)), H', ⟨by have := HK1.out; first | omega | exact Nat.le_refl _⟩, ⟨by (with_reducible repeat (first | apply Kd.R_alloc | apply Kd.R_drewN | apply Kd.R_drew)); exact HO_7.out⟩, ⟨by (with_reducible repeat (first | apply Kd.R_alloc | apply Kd.R_drewN | apply Kd.R_drew)); exact HO_8.out⟩, ⟨by (with_reducible repeat (first | refine z1_ ?_ _ | refine z2_ ?_ | refine z3_ ?_ _)); exact BK361.out⟩, ⟨by repeat (first | (with_reducible first | exact HB.out | apply y1_ | apply y2_ | apply y3_ | refine y4_ ?_ GE361.out) | exact HB.out)⟩⟩
            · replace c16 := Bool.eq_false_iff.mpr c16
              (subst c16); (have H1 : (catchmentref05_Entries.j1 k1 l0 l1 x7_1 t365 x9_1 t372 false a2_0 a2_1) = some r := by rw [if_neg (show ¬ (false = true) by decide)] at H; exact H); (clear H); (have H := H1); (clear H1); (have H' := Aside0.mk H); (clear H); (try go_wp2); (have n0_ := Aside0.mk (Kd.R_drew HO_7.out)); (have n1_ := Aside0.mk (Kd.R_drew HO_8.out)); (have n2_ := Aside0.mk (blk_drew BK361.out)); (have n3_ := Aside0.mk (below_drew1 HB.out)); (clear HO_7 HO_8 BK361 HB); (have HO_7 := n0_); (have HO_8 := n1_); (have BK361 := n2_); (have HB := n3_); (clear n0_ n1_ n2_ n3_); (refine start_ (n := 13) (S := fun w' => True) (ds := []) #[false, false, false, false, false, false, false, false, false, false, false, false, false] (by kernel_rfl) rfl rfl trivial (fun hHeld => ?_); refine with_tabW catchmentref05_Entries.tab8 catchmentref05_Entries.bits8 (fun HT_ HW_ => ?_)); (generalize w15.drew = w25 at HO_7 HO_8 BK361 HB hHeld ⊢); (refine pu_ (i := 0) (N := some 42) (v := ?_) (a' := ?_) HT_.out rfl rfl (.inl ⟨by rfl, ?_⟩) ?_ ?_; rotate_left)
              · intro w'; go_simp; with_reducible rfl
              rotate_left
              · simp only [pt_, pn_, sz_, ss_, i64_w, i32_w]; rfl
              refine pu_ (i := 1) (N := some 43) (v := ?_) (a' := ?_) HT_.out rfl rfl (.inl ⟨by rfl, ?_⟩) ?_ ?_; rotate_left
              · intro w'; go_simp; with_reducible rfl
              rotate_left
              · simp only [pt_, pn_, sz_, ss_, i64_w, i32_w]; rfl
              refine pu_ (i := 2) (N := some 44) (v := undef) (a' := ?_) HT_.out rfl rfl (.inr ⟨by rfl, rfl⟩) ?_ ?_; rotate_left
              · simp only [pt_, pn_, sz_, ss_, i64_w, i32_w]; rfl
              refine pu_ (i := 3) (N := some 45) (v := undef) (a' := ?_) HT_.out rfl rfl (.inr ⟨by rfl, rfl⟩) ?_ ?_; rotate_left
              · simp only [pt_, pn_, sz_, ss_, i64_w, i32_w]; rfl
              refine pu_ (i := 4) (N := some 46) (v := ?_) (a' := ?_) HT_.out rfl rfl (.inl ⟨by rfl, ?_⟩) ?_ ?_; rotate_left
              · intro w'; go_simp; with_reducible rfl
              rotate_left
              · simp only [pt_, pn_, sz_, ss_, i64_w, i32_w]; rfl
              refine pu_ (i := 5) (N := some 47) (v := ?_) (a' := ?_) HT_.out rfl rfl (.inl ⟨by rfl, ?_⟩) ?_ ?_; rotate_left
              · intro w'; go_simp; with_reducible rfl
              rotate_left
              · simp only [pt_, pn_, sz_, ss_, i64_w, i32_w]; rfl
              refine pu_ (i := 6) (N := some 48) (v := undef) (a' := ?_) HT_.out rfl rfl (.inr ⟨by rfl, rfl⟩) ?_ ?_; rotate_left
              · simp only [pt_, pn_, sz_, ss_, i64_w, i32_w]; rfl
              refine pu_ (i := 7) (N := some 49) (v := undef) (a' := ?_) HT_.out rfl rfl (.inr ⟨by rfl, rfl⟩) ?_ ?_; rotate_left
              · simp only [pt_, pn_, sz_, ss_, i64_w, i32_w]; rfl
              refine pu_ (i := 8) (N := some 50) (v := undef) (a' := ?_) HT_.out rfl rfl (.inr ⟨by rfl, rfl⟩) ?_ ?_; rotate_left
              · simp only [pt_, pn_, sz_, ss_, i64_w, i32_w]; rfl
              refine pu_ (i := 9) (N := some 51) (v := undef) (a' := ?_) HT_.out rfl rfl (.inr ⟨by rfl, rfl⟩) ?_ ?_; rotate_left
              · simp only [pt_, pn_, sz_, ss_, i64_w, i32_w]; rfl
              refine pu_ (i := 10) (N := some 52) (v := undef) (a' := ?_) HT_.out rfl rfl (.inr ⟨by rfl, rfl⟩) ?_ ?_; rotate_left
              · simp only [pt_, pn_, sz_, ss_, i64_w, i32_w]; rfl
              refine pu_ (i := 11) (N := some 53) (v := undef) (a' := ?_) HT_.out rfl rfl (.inr ⟨by rfl, rfl⟩) ?_ ?_; rotate_left
              · simp only [pt_, pn_, sz_, ss_, i64_w, i32_w]; rfl
              refine pu_ (i := 12) (N := some 54) (v := ?_) (a' := ?_) HT_.out rfl rfl (.inl ⟨by rfl, ?_⟩) ?_ ?_; rotate_left
              · intro w'; go_simp; with_reducible rfl
              rotate_left
              · simp only [pt_, pn_, sz_, ss_, i64_w, i32_w]; rfl
              (refine done_ (done_of HT_.out (by kernel_rfl)) ?_); (try go_wp2); (go_meet)
              case rel => exact ⟨_, (false), (by first | rfl | (simp; done) | (simp [*]; done)), H', ⟨by have := HK1.out; first | omega | exact Nat.le_refl _⟩, ⟨by (with_reducible repeat (first | apply Kd.R_alloc | apply Kd.R_drewN | apply Kd.R_drew)); exact HO_7.out⟩, ⟨by (with_reducible repeat (first | apply Kd.R_alloc | apply Kd.R_drewN | apply Kd.R_drew)); exact HO_8.out⟩, ⟨by (with_reducible repeat (first | refine z1_ ?_ _ | refine z2_ ?_ | refine z3_ ?_ _)); exact BK361.out⟩, ⟨by repeat (first | (with_reducible first | exact HB.out | apply y1_ | apply y2_ | apply y3_ | refine y4_ ?_ GE361.out) | exact HB.out)⟩⟩
          case rest =>
            (clear HC13); (try clear c1); (try clear p2); (try clear c3); (try clear p3); (try clear q3); (try clear hx3); (try clear c4); (try clear c7); (try clear c8); (try clear c9); (try clear c9b0); (try clear c10); (try clear c10b0); (try clear c16); (try clear c18); (try clear hx368_0); (try clear hx371_0); (try clear hx375_0); (try clear p2); (try clear p368); (try clear p371); (try clear p375); (try clear q368); (try clear q371); (try clear q375); (obtain ⟨kq, x54_12, rfl, HA, HJ12, HO_7, HO_8, BK361, HB⟩ := hcut)
            cases kq with
            | zero => exact absurd HA.out (by simp [catchmentref05_Entries.j1])
            | succ kj12 =>
              (have H := HA.out); (clear HA); (simp only [catchmentref05_Entries.j1] at H); (by_cases c26 : x54_12 = true)
              · subst c26
                (have H1 : (if 0 ≤ x9_1 then (if x9_1 < (t365.length : Int) then (if x7_1.length < 4398046511104 then (catchmentref05_Entries.l0 kj12 l0 l1 (x7_1 ++ [(⟨rdOf ByteArray.empty t365 x9_1, t372⟩ : S85)]) t365 (wrap64 (x9_1 + 1)) a2_0 a2_1) else (none)) else (none)) else (none)) = some r := by rw [if_pos rfl] at H; exact H); (clear H); (have H := H1); (clear H1); (by_cases c27 : 0 ≤ x9_1)
                · rw [if_pos c27] at H
                  (have c27b0 : decide (0 ≤ x9_1) = true := decide_eq_true c27); (clear c27); (by_cases c28 : x9_1 < (t365.length : Int))
                  · rw [if_pos c28] at H
                    (have c28b0 : decide (x9_1 < (t365.length : Int)) = true := decide_eq_true c28); (clear c28); (by_cases c29 : x7_1.length < 4398046511104)
                    · rw [if_pos c29] at H
                      (have LMc29 := Aside0.mk c29); (clear c29); (obtain ⟨y378, hy378⟩ : ∃ y_ : List (S85), y_ = (x7_1 ++ [(⟨rdOf ByteArray.empty t365 x9_1, t372⟩ : S85)]) := ⟨_, rfl⟩); (replace H : (catchmentref05_Entries.l0 kj12 l0 l1 y378 t365 (wrap64 (x9_1 + 1)) a2_0 a2_1) = some r := by first | (rw [hy378]; with_reducible exact H) | (have H2_ := (Option.bind_some _ _).symm.trans H; rw [hy378]; with_reducible exact H2_) | (have H2_ := (Option.bind_some _ _).symm.trans H; with_reducible exact H2_) | with_reducible exact H | (rw [hy378]; exact H) | exact H); (have Ny378 := Aside0.mk hy378); (clear hy378); (have H' := Aside0.mk H); (clear H); (have p377 : 0 ≤ (x9_1 : Int) := of_decide_eq_true (by first | (with_reducible assumption) | assumption)); (have q377 : x9_1 < (t365.length : Int) := of_decide_eq_true (by first | (with_reducible assumption) | assumption)); (obtain ⟨ad377, e377, hx377_0⟩ := Kd.at_string (Kd.R_reads' HO_8.out).2.2 x9_1 p377 q377); (obtain rfl : ad368 = ad377 := (by injection e377)); (replace p377 := eq_true p377); (replace q377 := eq_true q377)
                      go_wp2_with (first | ((with_reducible refine gate_builtin (b := .append) (xs := #[.tmp 55, .tmp 62]) rfl ?_); at_builtin; refine Kd.R_append k85 (w0 := w) w.heap.size rfl (.tmp 55) (.tmp 62) 74 85 (.agg #[(.string ⟨#[]⟩), (.string ⟨#[]⟩)]) 32 rfl Try.underlying74 info85 rfl (by decide) (by omega) u7 x7_1 (⟨rdOf ByteArray.empty t365 x9_1, t372⟩ : S85) [.string (rdOf ByteArray.empty t365 x9_1), .string t372] (fun _ => True) (fun _ => False) rfl rfl ?aP (fun _ hk => hk.elim) ?aF ?aO ?aB ?aS ?aL ?_; (case aP => exact k85_mkM _ _ _ (⟨rdOf ByteArray.empty t365 x9_1, t372⟩ : S85)); (case aB => exact (by repeat (first | (with_reducible first | exact HB.out | apply y1_ | apply y2_ | apply y3_ | refine y4_ ?_ GE361.out) | exact HB.out))); (case aF => exact (fun _ _ => trivial)); (case aO => exact (by (with_reducible repeat (first | apply Kd.R_alloc | apply Kd.R_drewN | apply Kd.R_drew)); exact HO_7.out)); (case aS => exact (below_size (by repeat (first | (with_reducible first | exact HB.out | apply y1_ | apply y2_ | apply y3_ | refine y4_ ?_ GE361.out) | exact HB.out)))); (case aL => have := LMc29.out; omega); intro v379 w30 ho hb hg hat; rw [← Ny378.out] at ho; have n0_ := Aside0.mk (Kd.R_over' (by (with_reducible repeat (first | apply Kd.R_alloc | apply Kd.R_drewN | apply Kd.R_drew)); exact HO_8.out) (Kd.R_typed (by (with_reducible repeat (first | apply Kd.R_alloc | apply Kd.R_drewN | apply Kd.R_drew)); exact HO_7.out)) (by decide) hg); have n1_ := Aside0.mk (blk_grown (g := gb361) (o := .cells #[.string a2_0, .string a2_1] 78 (0, 0)) (by (with_reducible repeat (first | refine z1_ ?_ _ | refine z2_ ?_ | refine z3_ ?_ _)); exact BK361.out) hg (Kd.R_ne HO_7.out BK361.out (by decide))); have n2_ := Aside0.mk (hb); have n3_ := Aside0.mk (ho); clear HO_8; clear BK361; clear HB; clear HO_7; have HO_8 := n0_; have BK361 := n1_; have HB := n2_; have HO380 := n3_; clear n0_ n1_ n2_ n3_; clear ho hb hg hat))
                      go_roundg kj12
                      case measure => have := HK1.out; have := HJ12.out; omega
                      case rel => exact ⟨(y378), (wrap64 (x9_1 + 1)), (by first | rfl | (simp; done) | (simp [*]; done)), H', ⟨by have := HK1.out; have := HJ12.out; omega⟩, ⟨by (with_reducible repeat (first | apply Kd.R_alloc | apply Kd.R_drewN | apply Kd.R_drew)); exact HO380.out⟩, ⟨by (with_reducible repeat (first | apply Kd.R_alloc | apply Kd.R_drewN | apply Kd.R_drew)); exact HO_8.out⟩, ⟨by (with_reducible repeat (first | refine z1_ ?_ _ | refine z2_ ?_ | refine z3_ ?_ _)); exact BK361.out⟩, ⟨by repeat (first | (with_reducible first | exact HB.out | apply y1_ | apply y2_ | apply y3_ | refine y4_ ?_ GE361.out) | exact HB.out)⟩⟩
                    · rw [if_neg c29] at H
                      exact absurd H (by simp)
                  · rw [if_neg c28] at H
                    exact absurd H (by simp)
                · rw [if_neg c27] at H
                  exact absurd H (by simp)
              · replace c26 := Bool.eq_false_iff.mpr c26
                (subst c26); (have H1 : (catchmentref05_Entries.l0 kj12 l0 l1 x7_1 t365 (wrap64 (x9_1 + 1)) a2_0 a2_1) = some r := by rw [if_neg (show ¬ (false = true) by decide)] at H; exact H); (clear H); (have H := H1); (clear H1); (have H' := Aside0.mk H); (clear H); (go_wp2); (go_roundg kj12)
                case measure => have := HK1.out; have := HJ12.out; omega
                case rel => exact ⟨(x7_1), (wrap64 (x9_1 + 1)), (by first | rfl | (simp; done) | (simp [*]; done)), H', ⟨by have := HK1.out; have := HJ12.out; omega⟩, ⟨by (with_reducible repeat (first | apply Kd.R_alloc | apply Kd.R_drewN | apply Kd.R_drew)); exact HO_7.out⟩, ⟨by (with_reducible repeat (first | apply Kd.R_alloc | apply Kd.R_drewN | apply Kd.R_drew)); exact HO_8.out⟩, ⟨by (with_reducible repeat (first | refine z1_ ?_ _ | refine z2_ ?_ | refine z3_ ?_ _)); exact BK361.out⟩, ⟨by repeat (first | (with_reducible first | exact HB.out | apply y1_ | apply y2_ | apply y3_ | refine y4_ ?_ GE361.out) | exact HB.out)⟩⟩
        · rw [if_neg c10] at H
          exact absurd H (by simp)
      · rw [if_neg c9] at H
        (have c9b0 : decide (x9_1 < (t365.length : Int)) = false := decide_eq_false c9); (clear c9); (obtain rfl := Option.some.inj H); (obtain ⟨Ao31, co31, eo31⟩ := Kd.R_slice HO_8.out); (subst eo31); (go_wp2); (go_ret); (exact ⟨_, by first | rfl | (simp [errW_none, errW_some] <;> rfl) | (simp [*, errW_none, errW_some] <;> rfl), by (with_reducible repeat (first | apply Kd.R_alloc | apply Kd.R_drewN | apply Kd.R_drew)); exact HO_7.out, by repeat (first | (with_reducible first | exact HB.out | apply y1_ | apply y2_ | apply y3_ | refine y4_ ?_ GE361.out) | exact HB.out)⟩)

end Go.Proofs.Ytpfikmchimlneaa.M3
