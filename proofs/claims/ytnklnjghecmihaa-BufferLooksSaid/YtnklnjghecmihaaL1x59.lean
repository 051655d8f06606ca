/- tight -/ -- written by wip/myprint.py
import Derived.Test.YtnklnjghecmihaaL1x0
import Derived.Test.YtnklnjghecmihaaL1x7
import Derived.Test.YtnklnjghecmihaaL1x58
namespace Go.Proofs.Ytnklnjghecmihaa.L1
open Go.RowKit Go.Proofs.YtnklnjghecmihaaW PrintWords PrintLast PrintMore Mine
attribute [local go_sem] max2_int min2_int max_two min_two max_three min_three max_four min_four max2_str min2_str binOp_gtr_str binOp_leq_str binOp_geq_str
set_option linter.unusedVariables false
set_option linter.unusedSimpArgs false

/-! ### catchmentref12_Within: function 57 -/
def catchmentref12_Within.l0 : Nat → List (S46) → Int → ByteArray → ByteArray → Option (Bool)
 | 0, _, _, _, _ => none
 | k + 1, x0, x5, x362000, x362001 => if x5 < (x0.length : Int) then (if 0 ≤ x5 then ((catchmentref04_Span.f ((rd_T46 x0 x5).f0) ((rd_T46 x0 x5).f1) ((rd_T46 x0 x5).f2) ((rd_T46 x0 x5).f3) ((rd_T46 x0 x5).f4) ((rd_T46 x0 x5).f5)).bind fun bt363 => ((catchmentref02_Within.f bt363.1 bt363.2 x362000 x362001).bind fun t365 => (if t365 = true then (catchmentref12_Within.l0 k x0 (wrap64 (x5 + 1)) x362000 x362001) else (some false)))) else (none)) else (some true)
def catchmentref12_Within.f (k : Nat) (l0 : List (S46)) (a1_0 : ByteArray) (a1_1 : ByteArray) : Option (Bool) := catchmentref12_Within.l0 k l0 0 a1_0 a1_1
theorem catchmentref12_Within.mono_l : ∀ k, (∀ y0 y1 y2 y3, LeO (catchmentref12_Within.l0 k y0 y1 y2 y3) (catchmentref12_Within.l0 (k + 1) y0 y1 y2 y3))
 | 0 => fun _ _ _ _ r h => by simp [catchmentref12_Within.l0] at h
 | k + 1 => by
  have ih0 := catchmentref12_Within.mono_l k
  ·intro y0 y1 y2 y3
   unfold catchmentref12_Within.l0
   repeat' (with_reducible first | exact ih0 _ _ _ _ | exact LeO.refl _ | exact LeO.none _ | refine LeO.ite ?_ ?_ | refine LeO.bind ?_ (fun _ => ?_))
theorem catchmentref12_Within.mono : ∀ a0 a1 a2 k, LeO (catchmentref12_Within.f k a0 a1 a2) (catchmentref12_Within.f (k + 1) a0 a1 a2) := by
 (intro a0 a1 a2 k); (have ih0 := catchmentref12_Within.mono_l k); (unfold catchmentref12_Within.f)
 repeat' (with_reducible first | exact ih0 _ _ _ _ | exact LeO.refl _ | exact LeO.none _ | refine LeO.ite ?_ ?_ | refine LeO.bind ?_ (fun _ => ?_))
def catchmentref12_Within.T4 : Bool × List (List Nat × List Nat) := (true, [([], []), ([], []), ([0, 1], [0, 1]), ([2], [2]), ([3], [3]), ([], []), ([4, 5, 4], [4, 5]), ([6], [6])])
def catchmentref12_Within.B4 : List Nat := [0, 0, 3, 7, 15, 0, 63, 127]
theorem catchmentref12_Within.tab4 : rtab .any (opsOf Try.f57 4) = catchmentref12_Within.T4 := by kernel_rfl
theorem catchmentref12_Within.bits4 : waitsOk catchmentref12_Within.T4.2 catchmentref12_Within.B4 = true := by kernel_rfl
set_option maxHeartbeats 8000000 in
set_option maxRecDepth 100000 in
theorem catchmentref12_Within.calls (k : Nat) (A0 : Option Addr) (c0 : Nat) (l0 : List (S46)) (a1_0 : ByteArray) (a1_1 : ByteArray) (r : Bool) (w : World) (hr0 : Kd.C k46 w A0 l0.length l0) (hc0 : l0.length ≤ c0) (h : catchmentref12_Within.f k l0 a1_0 a1_1 = some r) :
  Calls Try.prog 57 #[.slice A0 l0.length c0, .agg #[.string a1_0, .string a1_1]] w fun e w' => e = .returned (.bool r) ∧ Below w.heap.size w w' := by
 (have hu48 := Try.underlying48); (have hu46 := Try.underlying46); (have HR0 := Aside0.mk hr0); (have HC0 := Aside0.mk hc0); (clear hr0 hc0); (have HB := Aside0.mk (Below.refl w.heap.size w)); (have H : (catchmentref12_Within.l0 k l0 0 a1_0 a1_1) = some r := h); (clear h); (have H' := Aside0.mk H); (clear H); (go_enter Try.func57, Try.ntmps57)
 go_wp2_with (first | ((with_reducible refine gate_dst (N := 3) rfl ?_); refine box_event ?hg (N := 3) ?hd (cs := #[.string a1_0, .string a1_1]) (t := 48) ?hr ?_; (case hd => rfl); (case hg => rfl); (case hr => first | (go_simp; done) | (go_simp; rfl)); intro gb361 hg w3 hbox hb; have n0_ := Aside0.mk (below_step (by (with_reducible repeat first | exact HB.out | apply y1_ | apply y2_ | apply y3_) <;> exact HB.out) hb); have n1_ := Aside0.mk (hbox); have n2_ := Aside0.mk (hs_ hg (by (with_reducible repeat first | exact HB.out | apply y1_ | apply y2_ | apply y3_) <;> exact HB.out)); have n3_ := n2_; clear HB; have HB := n0_; have BK361 := n1_; have GW361 := n2_; have GE361 := n3_; clear n0_ n1_ n2_ n3_; clear hb hbox hg))
 (try simp only [Act.put, List.setIfInBounds_toArray, List.set_cons_zero, List.set_cons_succ])
 go_loopg [5] k (fun kq v5 w' => ∃ (x5_1 : Int), v5 = .int .i64 x5_1 ∧ Aside0 (catchmentref12_Within.l0 kq l0 x5_1 a1_0 a1_1 = some r) ∧ Aside0 (kq ≤ k) ∧ Aside0 (w'.heap[gb361]? = some (.cells #[.string a1_0, .string a1_1] 48 (0, 0))) ∧ Aside0 (Below w.heap.size w w'))
 case atStart => exact ⟨(0), (by first | rfl | (simp; done) | (simp [*]; done)), H', ⟨Nat.le_refl _⟩, ⟨by (with_reducible repeat first | apply z1_ | apply z2_ | apply z3_); exact BK361.out⟩, ⟨by (with_reducible repeat first | exact HB.out | apply y1_ | apply y2_ | apply y3_ | refine y4_ ?_ GE361.out) <;> exact HB.out⟩⟩
 case round =>
  (clear H'); (try clear p2); (obtain ⟨x5_1, rfl, HA, HK1, BK361, HB⟩ := hrel)
  cases gk with
  | zero => exact absurd HA.out (by simp [catchmentref12_Within.l0])
  | succ k1 =>
   (have H := HA.out); (clear HA); (simp only [catchmentref12_Within.l0] at H); (by_cases c4 : x5_1 < (l0.length : Int))
   ·rw [if_pos c4] at H
    (have c4b0 : decide (x5_1 < (l0.length : Int)) = true := decide_eq_true c4); (clear c4); (by_cases c5 : 0 ≤ x5_1)
    ·rw [if_pos c5] at H
     (have c5b0 : decide (0 ≤ x5_1) = true := decide_eq_true c5); (clear c5); (replace H := Option.bind_eq_some_iff.mp H); (obtain ⟨⟨t363, t364⟩, A60, H⟩ := H); (replace H : ((catchmentref02_Within.f t363 t364 a1_0 a1_1).bind fun t365 => (if t365 = true then (catchmentref12_Within.l0 k1 l0 (wrap64 (x5_1 + 1)) a1_0 a1_1) else (some false))) = some r := H); (have A6 := Aside0.mk A60); (clear A60); (replace H := Option.bind_eq_some_iff.mp H); (obtain ⟨t365, A70, H⟩ := H); (replace H : (if t365 = true then (catchmentref12_Within.l0 k1 l0 (wrap64 (x5_1 + 1)) a1_0 a1_1) else (some false)) = some r := H); (have A7 := Aside0.mk A70); (clear A70); (by_cases c8 : t365 = true)
     ·subst c8
      (have H1 : (catchmentref12_Within.l0 k1 l0 (wrap64 (x5_1 + 1)) a1_0 a1_1) = some r := by rw [if_pos rfl] at H; exact H); (clear H); (have H := H1); (clear H1); (have H' := Aside0.mk H); (clear H); (try go_wp2); (have n0_ := Aside0.mk (blk_drew BK361.out)); (have n1_ := Aside0.mk (below_drew1 HB.out)); (clear BK361 HB); (have BK361 := n0_); (have HB := n1_); (clear n0_ n1_); (have p362 : 0 ≤ (x5_1 : Int) := of_decide_eq_true (by first | (with_reducible assumption) | assumption)); (have q362 : x5_1 < (l0.length : Int) := of_decide_eq_true (by first | (with_reducible assumption) | assumption)); (obtain ⟨ad362, e362, hx362_0, hx362_1, hx362_2, hx362_3, hx362_4, hx362_5⟩ := at_T46 HR0.out x5_1 p362 q362); (have hw362_5 := hx362_5); (have hw362_4 := hx362_4); (have hw362_3 := hx362_3); (have hw362_2 := hx362_2); (have hw362_1 := hx362_1); (have hw362_0 := hx362_0); (cases e362); (replace hx362_0 := c1_ HB hx362_0); (replace hx362_1 := c1_ HB hx362_1); (replace hx362_2 := c1_ HB hx362_2)
      (replace hx362_3 := c1_ HB hx362_3); (replace hx362_4 := c1_ HB hx362_4); (replace hx362_5 := c1_ HB hx362_5); (replace p362 := eq_true p362); (replace q362 := eq_true q362)
      refine start_ (n := 8) (S := fun w' => w'.cell? ⟨gb361, 0, none⟩ = some (.string a1_0) ∧ w'.cell? ⟨gb361, 1, none⟩ = some (.string a1_1) ∧ w'.cell? (ad362.add ((x5_1).toNat * 6)) = some (.int .u8 ((rd_T46 l0 x5_1).f0)) ∧ w'.cell? ⟨(ad362.add ((x5_1).toNat * 6)).block, (ad362.add ((x5_1).toNat * 6)).off + 1, none⟩ = some (.int .i64 ((rd_T46 l0 x5_1).f1)) ∧ w'.cell? ⟨(ad362.add ((x5_1).toNat * 6)).block, (ad362.add ((x5_1).toNat * 6)).off + 2, none⟩ = some (.string ((rd_T46 l0 x5_1).f2)) ∧ w'.cell? ⟨(ad362.add ((x5_1).toNat * 6)).block, (ad362.add ((x5_1).toNat * 6)).off + 3, none⟩ = some (.string ((rd_T46 l0 x5_1).f3)) ∧ w'.cell? ⟨(ad362.add ((x5_1).toNat * 6)).block, (ad362.add ((x5_1).toNat * 6)).off + 4, none⟩ = some (.string ((rd_T46 l0 x5_1).f4)) ∧ w'.cell? ⟨(ad362.add ((x5_1).toNat * 6)).block, (ad362.add ((x5_1).toNat * 6)).off + 5, none⟩ = some (.int .u64 ((rd_T46 l0 x5_1).f5))) (ds := []) #[false, false, false, false, false, false, false, false] (by kernel_rfl) rfl rfl ⟨(b_ BK361 0), (b_ BK361 1), (c1_ HB hw362_0), (c1_ HB hw362_1), (c1_ HB hw362_2), (c1_ HB hw362_3), (c1_ HB hw362_4), (c1_ HB hw362_5)⟩ (fun hHeld => ?_); refine with_tabW catchmentref12_Within.tab4 catchmentref12_Within.bits4 (fun HT_ HW_ => ?_)
      (generalize wr.drew = w9 at BK361 HB hx362_0 hx362_1 hx362_2 hx362_3 hx362_4 hx362_5 hHeld ⊢); (refine pv_ 0 12 HT_.out ?_)
      refine pv_ 1 13 HT_.out ?_
      refine pv_ 2 14 HT_.out ?_
      refine tv_ 3 15 HT_.out HW_.out rfl hHeld (by rintro w' ⟨s0, s1, s2, s3, s4, s5, s6, s7⟩; go_simp; with_reducible rfl) ?_
      refine tv_ 5 17 HT_.out HW_.out rfl hHeld (by rintro w' ⟨s0, s1, s2, s3, s4, s5, s6, s7⟩; go_simp; with_reducible rfl) ?_
      (refine one_ (i := 4) (N := some 16) #[true, true, true, true, true, true, false, false] rfl rfl (one_of HT_.out (by kernel_rfl)) (by decide) (fun K hK => ?_)); (refine goes_ Try.func60 (by kernel_rfl) rfl #[.agg #[.int .u8 ((rd_T46 l0 x5_1).f0), .int .i64 ((rd_T46 l0 x5_1).f1), .string ((rd_T46 l0 x5_1).f2), .string ((rd_T46 l0 x5_1).f3), .string ((rd_T46 l0 x5_1).f4), .int .u64 ((rd_T46 l0 x5_1).f5)]] (by rfl) rfl rfl (by (try simp only [List.map_toArray, List.map_cons, List.map_nil]); first | done | rfl) ?_); (with_reducible refine (catchmentref04_Span.calls ((rd_T46 l0 x5_1).f0) ((rd_T46 l0 x5_1).f1) ((rd_T46 l0 x5_1).f2) ((rd_T46 l0 x5_1).f3) ((rd_T46 l0 x5_1).f4) ((rd_T46 l0 x5_1).f5) t363 t364 _ A6.out).mono ?_); (rintro e w10 ⟨rfl, hb⟩); (refine ⟨_, rfl, ?_⟩); (have n0_ := Aside0.mk (blk_below (by (with_reducible repeat first | apply z1_ | apply z2_ | apply z3_); exact BK361.out) hb))
      (have n1_ := Aside0.mk (below_step (by (with_reducible repeat first | exact HB.out | apply y1_ | apply y2_ | apply y3_ | refine y4_ ?_ GE361.out) <;> exact HB.out) hb)); (clear BK361 HB); (have BK361 := n0_); (have HB := n1_); (clear n0_ n1_); ((try clear hb)); ((try clear hb2)); ((try clear hk)); ((try clear hi)); (refine hK.out _ _ ⟨(b_ BK361 0), (b_ BK361 1), (c1_ HB hw362_0), (c1_ HB hw362_1), (c1_ HB hw362_2), (c1_ HB hw362_3), (c1_ HB hw362_4), (c1_ HB hw362_5)⟩ (fun hHeld => ?_)); (clear hK K); (refine norm_ (a' := ?_) ?_ ?_)
      rotate_left
      ·show Act.put _ (some 16) _ = _
       (simp only [pt_, pn_, sz_, ss_, i64_w, i32_w]); (rfl)
      (refine one_ (i := 6) (N := some 18) #[true, true, true, true, true, true, true, false] rfl rfl (one_of HT_.out (by kernel_rfl)) (by decide) (fun K hK => ?_)); (refine goes_ Try.func113 (by kernel_rfl) rfl #[.agg #[.string t363, .string t364], .agg #[.string a1_0, .string a1_1]] (by rfl) rfl rfl (by (try simp only [List.map_toArray, List.map_cons, List.map_nil]); first | done | rfl) ?_); (with_reducible refine (catchmentref02_Within.calls t363 t364 a1_0 a1_1 true _ A7.out).mono ?_); (rintro e w11 ⟨rfl, hb⟩); (refine ⟨_, rfl, ?_⟩); (have n0_ := Aside0.mk (blk_below (by (with_reducible repeat first | apply z1_ | apply z2_ | apply z3_); exact BK361.out) hb)); (have n1_ := Aside0.mk (below_step (by (with_reducible repeat first | exact HB.out | apply y1_ | apply y2_ | apply y3_ | refine y4_ ?_ GE361.out) <;> exact HB.out) hb)); (clear BK361 HB); (have BK361 := n0_); (have HB := n1_); (clear n0_ n1_); ((try clear hb)); ((try clear hb2)); ((try clear hk)); ((try clear hi))
      (refine hK.out _ _ ⟨(b_ BK361 0), (b_ BK361 1), (c1_ HB hw362_0), (c1_ HB hw362_1), (c1_ HB hw362_2), (c1_ HB hw362_3), (c1_ HB hw362_4), (c1_ HB hw362_5)⟩ (fun hHeld => ?_)); (clear hK K); (refine norm_ (a' := ?_) ?_ ?_)
      rotate_left
      ·show Act.put _ (some 18) _ = _
       (simp only [pt_, pn_, sz_, ss_, i64_w, i32_w]); (rfl)
      refine pv_ 7 19 HT_.out ?_
      (refine done_ (done_of HT_.out (by kernel_rfl)) ?_); (try go_wp2); (go_roundg k1)
      case measure => have := HK1.out; omega
      case rel => exact ⟨(wrap64 (x5_1 + 1)), (by first | rfl | (simp; done) | (simp [*]; done)), H', ⟨by have := HK1.out; omega⟩, ⟨by (with_reducible repeat first | apply z1_ | apply z2_ | apply z3_); exact BK361.out⟩, ⟨by (with_reducible repeat first | exact HB.out | apply y1_ | apply y2_ | apply y3_ | refine y4_ ?_ GE361.out) <;> exact HB.out⟩⟩
     ·replace c8 := Bool.eq_false_iff.mpr c8
      (subst c8); (have H1 : (some false) = some r := by rw [if_neg (show ¬ (false = true) by decide)] at H; exact H); (clear H); (have H := H1); (clear H1); (obtain rfl := Option.some.inj H); (try go_wp2); (have n0_ := Aside0.mk (blk_drew BK361.out)); (have n1_ := Aside0.mk (below_drew1 HB.out)); (clear BK361 HB); (have BK361 := n0_); (have HB := n1_); (clear n0_ n1_); (have p362 : 0 ≤ (x5_1 : Int) := of_decide_eq_true (by first | (with_reducible assumption) | assumption)); (have q362 : x5_1 < (l0.length : Int) := of_decide_eq_true (by first | (with_reducible assumption) | assumption)); (obtain ⟨ad362, e362, hx362_0, hx362_1, hx362_2, hx362_3, hx362_4, hx362_5⟩ := at_T46 HR0.out x5_1 p362 q362); (have hw362_5 := hx362_5); (have hw362_4 := hx362_4); (have hw362_3 := hx362_3); (have hw362_2 := hx362_2); (have hw362_1 := hx362_1); (have hw362_0 := hx362_0); (cases e362); (replace hx362_0 := c1_ HB hx362_0); (replace hx362_1 := c1_ HB hx362_1); (replace hx362_2 := c1_ HB hx362_2)
      (replace hx362_3 := c1_ HB hx362_3); (replace hx362_4 := c1_ HB hx362_4); (replace hx362_5 := c1_ HB hx362_5); (replace p362 := eq_true p362); (replace q362 := eq_true q362)
      refine start_ (n := 8) (S := fun w' => w'.cell? ⟨gb361, 0, none⟩ = some (.string a1_0) ∧ w'.cell? ⟨gb361, 1, none⟩ = some (.string a1_1) ∧ w'.cell? (ad362.add ((x5_1).toNat * 6)) = some (.int .u8 ((rd_T46 l0 x5_1).f0)) ∧ w'.cell? ⟨(ad362.add ((x5_1).toNat * 6)).block, (ad362.add ((x5_1).toNat * 6)).off + 1, none⟩ = some (.int .i64 ((rd_T46 l0 x5_1).f1)) ∧ w'.cell? ⟨(ad362.add ((x5_1).toNat * 6)).block, (ad362.add ((x5_1).toNat * 6)).off + 2, none⟩ = some (.string ((rd_T46 l0 x5_1).f2)) ∧ w'.cell? ⟨(ad362.add ((x5_1).toNat * 6)).block, (ad362.add ((x5_1).toNat * 6)).off + 3, none⟩ = some (.string ((rd_T46 l0 x5_1).f3)) ∧ w'.cell? ⟨(ad362.add ((x5_1).toNat * 6)).block, (ad362.add ((x5_1).toNat * 6)).off + 4, none⟩ = some (.string ((rd_T46 l0 x5_1).f4)) ∧ w'.cell? ⟨(ad362.add ((x5_1).toNat * 6)).block, (ad362.add ((x5_1).toNat * 6)).off + 5, none⟩ = some (.int .u64 ((rd_T46 l0 x5_1).f5))) (ds := []) #[false, false, false, false, false, false, false, false] (by kernel_rfl) rfl rfl ⟨(b_ BK361 0), (b_ BK361 1), (c1_ HB hw362_0), (c1_ HB hw362_1), (c1_ HB hw362_2), (c1_ HB hw362_3), (c1_ HB hw362_4), (c1_ HB hw362_5)⟩ (fun hHeld => ?_); refine with_tabW catchmentref12_Within.tab4 catchmentref12_Within.bits4 (fun HT_ HW_ => ?_)
      (generalize wr.drew = w12 at BK361 HB hx362_0 hx362_1 hx362_2 hx362_3 hx362_4 hx362_5 hHeld ⊢); (refine pv_ 0 12 HT_.out ?_)
      refine pv_ 1 13 HT_.out ?_
      refine pv_ 2 14 HT_.out ?_
      refine tv_ 3 15 HT_.out HW_.out rfl hHeld (by rintro w' ⟨s0, s1, s2, s3, s4, s5, s6, s7⟩; go_simp; with_reducible rfl) ?_
      refine tv_ 5 17 HT_.out HW_.out rfl hHeld (by rintro w' ⟨s0, s1, s2, s3, s4, s5, s6, s7⟩; go_simp; with_reducible rfl) ?_
      (refine one_ (i := 4) (N := some 16) #[true, true, true, true, true, true, false, false] rfl rfl (one_of HT_.out (by kernel_rfl)) (by decide) (fun K hK => ?_)); (refine goes_ Try.func60 (by kernel_rfl) rfl #[.agg #[.int .u8 ((rd_T46 l0 x5_1).f0), .int .i64 ((rd_T46 l0 x5_1).f1), .string ((rd_T46 l0 x5_1).f2), .string ((rd_T46 l0 x5_1).f3), .string ((rd_T46 l0 x5_1).f4), .int .u64 ((rd_T46 l0 x5_1).f5)]] (by rfl) rfl rfl (by (try simp only [List.map_toArray, List.map_cons, List.map_nil]); first | done | rfl) ?_); (with_reducible refine (catchmentref04_Span.calls ((rd_T46 l0 x5_1).f0) ((rd_T46 l0 x5_1).f1) ((rd_T46 l0 x5_1).f2) ((rd_T46 l0 x5_1).f3) ((rd_T46 l0 x5_1).f4) ((rd_T46 l0 x5_1).f5) t363 t364 _ A6.out).mono ?_); (rintro e w13 ⟨rfl, hb⟩); (refine ⟨_, rfl, ?_⟩); (have n0_ := Aside0.mk (blk_below (by (with_reducible repeat first | apply z1_ | apply z2_ | apply z3_); exact BK361.out) hb))
      (have n1_ := Aside0.mk (below_step (by (with_reducible repeat first | exact HB.out | apply y1_ | apply y2_ | apply y3_ | refine y4_ ?_ GE361.out) <;> exact HB.out) hb)); (clear BK361 HB); (have BK361 := n0_); (have HB := n1_); (clear n0_ n1_); ((try clear hb)); ((try clear hb2)); ((try clear hk)); ((try clear hi)); (refine hK.out _ _ ⟨(b_ BK361 0), (b_ BK361 1), (c1_ HB hw362_0), (c1_ HB hw362_1), (c1_ HB hw362_2), (c1_ HB hw362_3), (c1_ HB hw362_4), (c1_ HB hw362_5)⟩ (fun hHeld => ?_)); (clear hK K); (refine norm_ (a' := ?_) ?_ ?_)
      rotate_left
      ·show Act.put _ (some 16) _ = _
       (simp only [pt_, pn_, sz_, ss_, i64_w, i32_w]); (rfl)
      (refine one_ (i := 6) (N := some 18) #[true, true, true, true, true, true, true, false] rfl rfl (one_of HT_.out (by kernel_rfl)) (by decide) (fun K hK => ?_)); (refine goes_ Try.func113 (by kernel_rfl) rfl #[.agg #[.string t363, .string t364], .agg #[.string a1_0, .string a1_1]] (by rfl) rfl rfl (by (try simp only [List.map_toArray, List.map_cons, List.map_nil]); first | done | rfl) ?_); (with_reducible refine (catchmentref02_Within.calls t363 t364 a1_0 a1_1 false _ A7.out).mono ?_); (rintro e w14 ⟨rfl, hb⟩); (refine ⟨_, rfl, ?_⟩); (have n0_ := Aside0.mk (blk_below (by (with_reducible repeat first | apply z1_ | apply z2_ | apply z3_); exact BK361.out) hb)); (have n1_ := Aside0.mk (below_step (by (with_reducible repeat first | exact HB.out | apply y1_ | apply y2_ | apply y3_ | refine y4_ ?_ GE361.out) <;> exact HB.out) hb)); (clear BK361 HB); (have BK361 := n0_); (have HB := n1_); (clear n0_ n1_); ((try clear hb)); ((try clear hb2)); ((try clear hk)); ((try clear hi))
      (refine hK.out _ _ ⟨(b_ BK361 0), (b_ BK361 1), (c1_ HB hw362_0), (c1_ HB hw362_1), (c1_ HB hw362_2), (c1_ HB hw362_3), (c1_ HB hw362_4), (c1_ HB hw362_5)⟩ (fun hHeld => ?_)); (clear hK K); (refine norm_ (a' := ?_) ?_ ?_)
      rotate_left
      ·show Act.put _ (some 18) _ = _
       (simp only [pt_, pn_, sz_, ss_, i64_w, i32_w]); (rfl)
      refine pv_ 7 19 HT_.out ?_
      (refine done_ (done_of HT_.out (by kernel_rfl)) ?_); (try go_wp2); (go_ret); (exact ⟨by first | rfl | (simp [*, errW_none, errW_some] <;> rfl), by (with_reducible repeat first | exact HB.out | apply y1_ | apply y2_ | apply y3_ | refine y4_ ?_ GE361.out) <;> exact HB.out⟩)
    ·rw [if_neg c5] at H
     exact absurd H (by simp)
   ·rw [if_neg c4] at H
    (have c4b0 : decide (x5_1 < (l0.length : Int)) = false := decide_eq_false c4); (clear c4); (obtain rfl := Option.some.inj H); (go_wp2); (go_ret); (exact ⟨by first | rfl | (simp [*, errW_none, errW_some] <;> rfl), by (with_reducible repeat first | exact HB.out | apply y1_ | apply y2_ | apply y3_ | refine y4_ ?_ GE361.out) <;> exact HB.out⟩)

end Go.Proofs.Ytnklnjghecmihaa.L1
