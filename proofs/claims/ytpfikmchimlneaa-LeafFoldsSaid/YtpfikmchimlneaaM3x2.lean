-- written by a program of this session (wip/myprint.py), over the kit's printer and the session's own contracts
import Derived.Test.YtpfikmchimlneaaM3x0
namespace Go.Proofs.Ytpfikmchimlneaa.M3
open Go.RowKit Go.Proofs.YtpfikmchimlneaaW.PrintWords Go.Proofs.YtpfikmchimlneaaW.PrintLast Go.Proofs.YtpfikmchimlneaaW.PrintMore Go.Proofs.YtpfikmchimlneaaW.Mine
attribute [local go_sem] max2_int min2_int max_two min_two max_three min_three max_four min_four max2_str min2_str binOp_gtr_str binOp_leq_str binOp_geq_str   -- for this text's walks alone
set_option linter.unusedVariables false
set_option linter.unusedSimpArgs false

/-! ### catchmentlaw11_few: function 27 -/
def catchmentlaw11_few.l0 : Nat → List (List (S85)) → List (List (S85)) → Int → Option ((List (List (S85))))
  | 0, _, _, _ => none
  | k + 1, x0, x3, x4 => if x4 < (x0.length : Int) then (if x4 < 10 then (if 0 ≤ x4 then (if 0 ≤ (mn ((rd_L2 x0 x4).length : Int) 10) then (if (mn ((rd_L2 x0 x4).length : Int) 10) ≤ ((rd_L2 x0 x4).length : Int) then (if x3.length < 5864062014805 then (catchmentlaw11_few.l0 k x0 (x3 ++ [((rd_L2 x0 x4).take ((mn ((rd_L2 x0 x4).length : Int) 10) : Int).toNat)]) (wrap64 (x4 + 1))) else (none)) else (none)) else (none)) else (none)) else (some x3)) else (some x3)
def catchmentlaw11_few.f (k : Nat) (l0 : List (List (S85))) : Option ((List (List (S85)))) := catchmentlaw11_few.l0 k l0 (([] : List (List (S85)))) 0
theorem catchmentlaw11_few.mono_l : ∀ k, (∀ y0 y1 y2, LeO (catchmentlaw11_few.l0 k y0 y1 y2) (catchmentlaw11_few.l0 (k + 1) y0 y1 y2))
  | 0 => fun _ _ _ r h => by simp [catchmentlaw11_few.l0] at h
  | k + 1 => by
    have ih0 := catchmentlaw11_few.mono_l k
    · intro y0 y1 y2
      unfold catchmentlaw11_few.l0
      repeat' first
      | (with_reducible exact ih0 _ _ _)
      | (with_reducible exact LeO.refl _)
      | (with_reducible exact LeO.none _)
      | (with_reducible refine LeO.ite ?_ ?_)
      | (with_reducible refine LeO.bind ?_ (fun _ => ?_))
      | exact ih0 _ _ _
      | exact LeO.none _
      | refine LeO.ite ?_ ?_
      | refine LeO.bind ?_ (fun _ => ?_)
theorem catchmentlaw11_few.mono : ∀ a0 k, LeO (catchmentlaw11_few.f k a0) (catchmentlaw11_few.f (k + 1) a0) := by
  (intro a0 k); (have ih0 := catchmentlaw11_few.mono_l k); (unfold catchmentlaw11_few.f)
  repeat' first
      | (with_reducible exact ih0 _ _ _)
      | (with_reducible exact LeO.refl _)
      | (with_reducible exact LeO.none _)
      | (with_reducible refine LeO.ite ?_ ?_)
      | (with_reducible refine LeO.bind ?_ (fun _ => ?_))
      | exact ih0 _ _ _
      | exact LeO.none _
      | refine LeO.ite ?_ ?_
      | refine LeO.bind ?_ (fun _ => ?_)
def catchmentlaw11_few.T5 : Bool × List (List Nat × List Nat) := (true, [([], []), ([], []), ([], []), ([1, 2], [1, 2]), ([3], [3]), ([], []), ([], []), ([5, 6], [5, 6]), ([7], [7]), ([8], [8]), ([9], [9]), ([4, 10], [4, 10]), ([11], [11]), ([0, 12], [0, 12]), ([13, 13, 0, 1, 2, 3, 4, 5, 6, 7, 8, 9, 10, 11, 12, 13], [0, 13])])
def catchmentlaw11_few.B5 : List Nat := [0, 0, 0, 6, 14, 0, 0, 96, 224, 480, 992, 2046, 4094, 8191, 16383]
theorem catchmentlaw11_few.tab5 : rtab .any (opsOf Try.f27 5) = catchmentlaw11_few.T5 := by kernel_rfl
theorem catchmentlaw11_few.bits5 : waitsOk catchmentlaw11_few.T5.2 catchmentlaw11_few.B5 = true := by kernel_rfl
set_option maxHeartbeats 8000000 in
set_option maxRecDepth 100000 in
theorem catchmentlaw11_few.calls (k : Nat) (P0_ : Nat → Prop) (A0 : Option Addr) (c0 : Nat) (l0 : List (List (S85))) (r : List (List (S85))) (w : World) (hs0 : Kd.V (Kd.slice 85 k85) 74 w w.heap.size (fun k_ => P0_ k_) (.slice A0 l0.length c0) l0) (h : catchmentlaw11_few.f k l0 = some r) :
    Calls Try.prog 27 #[.slice A0 l0.length c0] w fun e w' => ∃ v0_ : Value, e = .returned (v0_) ∧ Kd.N (Kd.slice 85 k85) 74 w' w.heap.size (fun k_ => (P0_ k_ ∨ w.heap.size ≤ k_)) v0_ r ∧ Below w.heap.size w w' := by
  (have HO0 := Aside0.mk (show Kd.V (Kd.slice 85 k85) 74 w w.heap.size (fun k_ => (P0_ k_ ∨ w.heap.size ≤ k_)) (.slice A0 l0.length c0) l0 from Kd.V_mono hs0 (fun k_ hk => .inl hk))); (have HB := Aside0.mk (Below.refl w.heap.size w)); (have H : (catchmentlaw11_few.l0 k l0 (([] : List (List (S85)))) 0) = some r := h); (clear h); (obtain ⟨y101, hy101⟩ : ∃ y_ : List (List (S85)), y_ = (([] : List (List (S85)))) := ⟨_, rfl⟩); (replace H : (catchmentlaw11_few.l0 k l0 y101 0) = some r := by first | (rw [hy101]; with_reducible exact H) | (have H2_ := (Option.bind_some _ _).symm.trans H; rw [hy101]; with_reducible exact H2_) | (have H2_ := (Option.bind_some _ _).symm.trans H; with_reducible exact H2_) | with_reducible exact H | (rw [hy101]; exact H) | exact H); (have Ny101 := Aside0.mk hy101); (clear hy101); (have H' := Aside0.mk H); (clear H); (go_enter Try.func27, Try.ntmps27)
  go_wp2_with (first | ((with_reducible refine gate_dst (N := 5) rfl ?_); refine Kd.N_lit (Kd.slice 85 k85) _ 74 ?hg (N' := 5) ?hd (xs := ([] : List (List (S85)))) (inner := []) (ok := (fun k_ => (P0_ k_ ∨ w.heap.size ≤ k_))) (okp := (fun k_ => (P0_ k_ ∨ w.heap.size ≤ k_))) ?hr ?hp (fun _ hk => hk) ((show ∀ k_, w.heap.size ≤ k_ → (fun k_ => (P0_ k_ ∨ w.heap.size ≤ k_)) k_ from fun k_ hk => (.inr (Nat.le_trans (below_size (by repeat (first | (with_reducible first | exact HB.out | apply y1_ | apply y2_ | apply y3_) | exact HB.out))) hk))) _ (Nat.le_refl _)) (Below.refl _ _) (Nat.le_refl _) (by simp) ?_; (case hd => rfl); (case hg => rfl); (case hr => first | (go_simp; done) | (go_simp; rfl)); (case hp => exact (Reps.none _ _)); intro v102 w2 ho3 hb hg_ hnew_; clear hg_ hnew_; (first | rw [← Ny101.out] at ho3 | (simp only [Int.reduceToNat] at ho3; rw [← Ny101.out] at ho3)); have n0_ := Aside0.mk (Kd.V_elder' (by (with_reducible repeat (first | apply Kd.V_alloc | apply Kd.V_drewN | apply Kd.V_drew)); exact HO0.out) (Kd.N_base ho3) hb); have n1_ := Aside0.mk (Kd.N_lower ho3 (below_size (by repeat (first | (with_reducible first | exact HB.out | apply y1_ | apply y2_ | apply y3_) | exact HB.out)))); have n2_ := Aside0.mk (below_step (by repeat (first | (with_reducible first | exact HB.out | apply y1_ | apply y2_ | apply y3_) | exact HB.out)) hb); clear HO0; clear HB; have HO0 := n0_; have HO103 := n1_; have HB := n2_; clear n0_ n1_ n2_; clear hb ho3))
  (try simp only [Act.put, List.setIfInBounds_toArray, List.set_cons_zero, List.set_cons_succ])
  go_loopg [3, 4] k (fun kq v3 v4 w' => ∃ (x3_1 : List (List (S85))) (x4_1 : Int), v4 = .int .i64 x4_1 ∧ Aside0 (catchmentlaw11_few.l0 kq l0 x3_1 x4_1 = some r) ∧ Aside0 (kq ≤ k) ∧ Aside0 (Kd.V (Kd.slice 85 k85) 74 w' w.heap.size (fun k_ => (P0_ k_ ∨ w.heap.size ≤ k_) ∧ some k_ ≠ (v3 : Value).ownBlock) (.slice A0 l0.length c0) l0) ∧ Aside0 (Kd.N (Kd.slice 85 k85) 74 w' w.heap.size (fun k_ => (P0_ k_ ∨ w.heap.size ≤ k_)) v3 x3_1) ∧ Aside0 (Below w.heap.size w w'))
  case atStart => exact ⟨(y101), (0), (by first | rfl | (simp; done) | (simp [*]; done)), H', ⟨Nat.le_refl _⟩, ⟨by (with_reducible repeat (first | apply Kd.V_alloc | apply Kd.V_drewN | apply Kd.V_drew)); exact HO0.out⟩, ⟨by (with_reducible repeat (first | apply Kd.N_alloc | apply Kd.N_drewN | apply Kd.N_drew)); exact HO103.out⟩, ⟨by repeat (first | (with_reducible first | exact HB.out | apply y1_ | apply y2_ | apply y3_) | exact HB.out)⟩⟩
  case round =>
    (clear H'); (try clear c2); (try clear p2); (obtain ⟨x3_1, x4_1, rfl, HA, HK1, HO_0, HO_3, HB⟩ := hrel)
    cases gk with
    | zero => exact absurd HA.out (by simp [catchmentlaw11_few.l0])
    | succ k1 =>
      (have H := HA.out); (clear HA); (simp only [catchmentlaw11_few.l0] at H); (by_cases c4 : x4_1 < (l0.length : Int))
      · rw [if_pos c4] at H
        (have c4b0 : decide (x4_1 < (l0.length : Int)) = true := decide_eq_true c4); (clear c4); (by_cases c5 : x4_1 < 10)
        · rw [if_pos c5] at H
          (have c5b0 : decide (x4_1 < 10) = true := decide_eq_true c5); (clear c5); (by_cases c6 : 0 ≤ x4_1)
          · rw [if_pos c6] at H
            (have c6b0 : decide (0 ≤ x4_1) = true := decide_eq_true c6); (clear c6); (obtain ⟨ji7, hji7⟩ : ∃ j_ : Int, (mn ((rd_L2 l0 x4_1).length : Int) 10) = j_ := ⟨_, rfl⟩); (replace H : (if 0 ≤ (ji7) then (if (ji7) ≤ ((rd_L2 l0 x4_1).length : Int) then (if x3_1.length < 5864062014805 then (catchmentlaw11_few.l0 k1 l0 (x3_1 ++ [((rd_L2 l0 x4_1).take ((ji7) : Int).toNat)]) (wrap64 (x4_1 + 1))) else (none)) else (none)) else (none)) = some r := by first | (rw [hji7] at H; exact H) | (simp only [hji7] at H ⊢; exact H)); (have hji7_ : (if 10 < ((rd_L2 l0 x4_1).length : Int) then 10 else ((rd_L2 l0 x4_1).length : Int)) = ji7 := hji7); ((try (have hji7n : (if 10 < (rd_L2 l0 x4_1).length then (10 : Int) else ((rd_L2 l0 x4_1).length : Int)) = ji7 := by (rw [← hji7]; unfold mn; (repeat' split) <;> omega)))); (by_cases c8 : 0 ≤ (ji7))
            · rw [if_pos c8] at H
              (have c8b0 := eq_true c8); (have c8b1 : decide (0 ≤ (ji7)) = true := decide_eq_true c8); (clear c8); (by_cases c9 : (ji7) ≤ ((rd_L2 l0 x4_1).length : Int))
              · rw [if_pos c9] at H
                (have c9b0 := eq_true c9); (have c9b1 : decide ((ji7) ≤ ((rd_L2 l0 x4_1).length : Int)) = true := decide_eq_true c9); (clear c9); (obtain ⟨y106, hy106⟩ : ∃ y_ : List (S85), y_ = ((rd_L2 l0 x4_1).take ((ji7) : Int).toNat) := ⟨_, rfl⟩); (replace H : (if x3_1.length < 5864062014805 then (catchmentlaw11_few.l0 k1 l0 (x3_1 ++ [y106]) (wrap64 (x4_1 + 1))) else (none)) = some r := by first | (rw [hy106]; with_reducible exact H) | (have H2_ := (Option.bind_some _ _).symm.trans H; rw [hy106]; with_reducible exact H2_) | (have H2_ := (Option.bind_some _ _).symm.trans H; with_reducible exact H2_) | with_reducible exact H | (rw [hy106]; exact H) | exact H); (have Ny106 := Aside0.mk hy106); (clear hy106); (by_cases c10 : x3_1.length < 5864062014805)
                · rw [if_pos c10] at H
                  (have LMc10 := Aside0.mk c10); (clear c10); (obtain ⟨y111, hy111⟩ : ∃ y_ : List (List (S85)), y_ = (x3_1 ++ [y106]) := ⟨_, rfl⟩); (replace H : (catchmentlaw11_few.l0 k1 l0 y111 (wrap64 (x4_1 + 1))) = some r := by first | (rw [hy111]; with_reducible exact H) | (have H2_ := (Option.bind_some _ _).symm.trans H; rw [hy111]; with_reducible exact H2_) | (have H2_ := (Option.bind_some _ _).symm.trans H; with_reducible exact H2_) | with_reducible exact H | (rw [hy111]; exact H) | exact H); (have Ny111 := Aside0.mk hy111); (clear hy111); (have H' := Aside0.mk H); (clear H); (try go_wp2); (have n0_ := Aside0.mk (Kd.V_drew HO_0.out)); (have n1_ := Aside0.mk (Kd.N_drew HO_3.out)); (have n2_ := Aside0.mk (below_drew1 HB.out)); (clear HO_0 HO_3 HB); (have HO_0 := n0_); (have HO_3 := n1_); (have HB := n2_); (clear n0_ n1_ n2_); (have p104 : 0 ≤ (x4_1 : Int) := of_decide_eq_true (by first | (with_reducible assumption) | assumption)); (have q104 : x4_1 < (l0.length : Int) := of_decide_eq_true (by first | (with_reducible assumption) | assumption)); (obtain ⟨ad104, A104_0, c104_0, e104, hx104_0, hl104_0, hi104_0⟩ := at_L2 (Kd.V_reads' HO_0.out).2.2 x4_1 p104 q104); (cases e104)
                  (obtain ⟨ce104, hce104, hMe104, hcc104⟩ := Kd.V_get HO_0.out [] x4_1 p104 (by first | exact q104 | exact of_decide_eq_true (by first | (with_reducible assumption) | assumption) | (have e_ := (Kd.V_reads' HO_0.out).1; omega))); (obtain ⟨ua104_0, uc104_0, rfl, ul104_0, ge104_0⟩ := Kd.FK_slice_open hMe104); (have hv104_0 := hcc104 0 _ rfl); (rw [Nat.add_zero, show ((Kd.slice 85 k85)).sz = 1 from rfl, Nat.mul_one] at hv104_0); (replace hv104_0 := Option.some.inj (hv104_0.symm.trans hx104_0)); (injection hv104_0 with hva_ hvn_ hvc_); (rw [hva_] at ge104_0); (rw [hvc_] at ul104_0); (have HL104_0 := Aside0.mk (show Kd.V k85 85 _ w.heap.size _ _ (rd_L2 l0 x4_1) from Kd.V_mk ul104_0 ge104_0)); (clear hva_ hvn_ hvc_ ge104_0 ul104_0 hcc104 hce104); (have HR104_0 := Aside0.mk hi104_0); (have HC104_0 := Aside0.mk hl104_0); (clear hi104_0 hl104_0); (replace p104 := eq_true p104); (replace q104 := eq_true q104); (have p105 : 0 ≤ (x4_1 : Int) := of_decide_eq_true (by first | (with_reducible assumption) | assumption)); (have q105 : x4_1 < (l0.length : Int) := of_decide_eq_true (by first | (with_reducible assumption) | assumption))
                  (obtain ⟨ad105, A105_0, c105_0, e105, hx105_0, hl105_0, hi105_0⟩ := at_L2 (Kd.V_reads' HO_0.out).2.2 x4_1 p105 q105); (obtain rfl : ad104 = ad105 := (by injection e105)); (obtain ⟨ce105, hce105, hMe105, hcc105⟩ := Kd.V_get HO_0.out [] x4_1 p105 (by first | exact q105 | exact of_decide_eq_true (by first | (with_reducible assumption) | assumption) | (have e_ := (Kd.V_reads' HO_0.out).1; omega))); (obtain ⟨ua105_0, uc105_0, rfl, ul105_0, ge105_0⟩ := Kd.FK_slice_open hMe105); (have hv105_0 := hcc105 0 _ rfl); (rw [Nat.add_zero, show ((Kd.slice 85 k85)).sz = 1 from rfl, Nat.mul_one] at hv105_0); (replace hv105_0 := Option.some.inj (hv105_0.symm.trans hx105_0)); (injection hv105_0 with hva_ hvn_ hvc_); (rw [hva_] at ge105_0); (rw [hvc_] at ul105_0); (have HL105_0 := Aside0.mk (show Kd.V k85 85 _ w.heap.size _ _ (rd_L2 l0 x4_1) from Kd.V_mk ul105_0 ge105_0)); (clear hva_ hvn_ hvc_ ge105_0 ul105_0 hcc105 hce105); (have HR105_0 := Aside0.mk hi105_0); (have HC105_0 := Aside0.mk hl105_0); (clear hi105_0 hl105_0); (replace p105 := eq_true p105); (replace q105 := eq_true q105); (have ea_ := Option.some.inj (hx104_0.symm.trans hx105_0)); (injection ea_ with ea_ en_ ec_); (subst ea_); (subst ec_)
                  (clear en_); (have q12 : ((ji7) : Int) ≤ (((rd_L2 l0 x4_1).length : Int) : Int) := of_decide_eq_true (by first | (with_reducible assumption) | assumption)); (obtain ⟨i012, hi012, _, hsz12, _⟩ := info_parts info85); (have hroom12 : (rd_L2 l0 x4_1).length ≤ c104_0 := HC104_0.out); (have hC12 : Kd.F k85 _ _ A104_0 (rd_L2 l0 x4_1).length (rd_L2 l0 x4_1) := (Kd.V_at (base := w.heap.size) HL104_0.out).2.2); (have hcut12 := cut_to (P := Try.prog) 74 85 .i64 Try.underlying74 hi012 A104_0 (rd_L2 l0 x4_1).length c104_0 (ji7) (of_decide_eq_true (by first | (with_reducible assumption) | assumption)) q12 hroom12); (have hr12 := Kd.F_take (m := ((ji7) : Int).toNat) hC12 (by omega)); (have hy12 : y106.length = ((ji7) : Int).toNat := (by rw [Ny106.out, List.length_take]; omega)); (rw [← Ny106.out] at hr12); (rw [← hy12] at hcut12); (have HO110 := Aside0.mk (show Kd.V k85 85 _ w.heap.size _ (.slice A104_0 y106.length c104_0) y106 from Kd.V_mk (by omega) hr12)); (have HC110 := Aside0.mk (show y106.length ≤ c104_0 from by omega)); (clear hr12 hC12 hroom12 hi012 hsz12); (have KY12 := Aside0.mk hy12); (clear hy12); (replace q12 := eq_true q12)
                  (refine start_ (n := 15) (S := fun w' => w'.cell? (ad104.add (x4_1).toNat) = some (.slice A104_0 (rd_L2 l0 x4_1).length c104_0) ∧ w'.cell? (ad104.add (x4_1).toNat) = some (.slice A104_0 (rd_L2 l0 x4_1).length c104_0)) (ds := [12, 13]) #[false, false, false, false, false, false, false, false, false, false, false, false, false, false, false] (by kernel_rfl) rfl rfl ⟨hx104_0, hx105_0⟩ (fun hHeld => ?_); refine with_tabW catchmentlaw11_few.tab5 catchmentlaw11_few.bits5 (fun HT_ HW_ => ?_)); (generalize wr.drew = w11 at HO_0 HO_3 HB HL104_0 HL105_0 HO110 HR104_0 HR105_0 hx104_0 hx105_0 hHeld ⊢); (refine pu_ (i := 0) (N := some 16) (v := ?_) (a' := ?_) HT_.out rfl rfl (.inl ⟨by rfl, ?_⟩) ?_ ?_; rotate_left)
                  · intro w'; go_simp; with_reducible rfl
                  rotate_left
                  · simp only [pt_, pn_, sz_, ss_, i64_w, i32_w]; rfl
                  refine pu_ (i := 1) (N := some 17) (v := ?_) (a' := ?_) HT_.out rfl rfl (.inl ⟨by rfl, ?_⟩) ?_ ?_; rotate_left
                  · intro w'; go_simp; with_reducible rfl
                  rotate_left
                  · simp only [pt_, pn_, sz_, ss_, i64_w, i32_w]; rfl
                  refine pu_ (i := 2) (N := some 18) (v := ?_) (a' := ?_) HT_.out rfl rfl (.inl ⟨by rfl, ?_⟩) ?_ ?_; rotate_left
                  · intro w'; go_simp; with_reducible rfl
                  rotate_left
                  · simp only [pt_, pn_, sz_, ss_, i64_w, i32_w]; rfl
                  refine pu_ (i := 3) (N := some 19) (v := ?_) (a' := ?_) HT_.out rfl rfl (.inl ⟨by rfl, ?_⟩) ?_ ?_; rotate_left
                  · intro w'; go_simp; with_reducible rfl
                  rotate_left
                  · simp only [pt_, pn_, sz_, ss_, i64_w, i32_w]; rfl
                  refine pu_ (i := 5) (N := some 21) (v := ?_) (a' := ?_) HT_.out rfl rfl (.inl ⟨by rfl, ?_⟩) ?_ ?_; rotate_left
                  · intro w'; go_simp; with_reducible rfl
                  rotate_left
                  · simp only [pt_, pn_, sz_, ss_, i64_w, i32_w]; rfl
                  refine pu_ (i := 6) (N := some 22) (v := ?_) (a' := ?_) HT_.out rfl rfl (.inl ⟨by rfl, ?_⟩) ?_ ?_; rotate_left
                  · intro w'; go_simp; with_reducible rfl
                  rotate_left
                  · simp only [pt_, pn_, sz_, ss_, i64_w, i32_w]; rfl
                  refine pu_ (i := 7) (N := some 23) (v := ?_) (a' := ?_) HT_.out rfl rfl (.inl ⟨by rfl, ?_⟩) ?_ ?_; rotate_left
                  · intro w'; go_simp; with_reducible rfl
                  rotate_left
                  · simp only [pt_, pn_, sz_, ss_, i64_w, i32_w]; rfl
                  refine ta_ (i := 4) (N := some 20) (v := ?_) (a' := ?_) HT_.out HW_.out rfl rfl (.inl ⟨by rfl, ?_⟩) hHeld ?_ ?_; rotate_left
                  · rintro w' ⟨s0, s1⟩; go_simp; with_reducible rfl
                  rotate_left
                  · simp only [pt_, pn_, sz_, ss_, i64_w, i32_w]; rfl
                  refine ta_ (i := 8) (N := some 24) (v := ?_) (a' := ?_) HT_.out HW_.out rfl rfl (.inl ⟨by rfl, ?_⟩) hHeld ?_ ?_; rotate_left
                  · rintro w' ⟨s0, s1⟩; go_simp; with_reducible rfl
                  rotate_left
                  · simp only [pt_, pn_, sz_, ss_, i64_w, i32_w]; rfl
                  refine pu_ (i := 9) (N := some 25) (v := ?_) (a' := ?_) HT_.out rfl rfl (.inl ⟨by rfl, ?_⟩) ?_ ?_; rotate_left
                  · intro w'; go_simp; with_reducible rfl
                  rotate_left
                  · simp only [pt_, pn_, sz_, ss_, i64_w, i32_w]; rfl
                  refine pu_ (i := 10) (N := some 26) (v := ?_) (a' := ?_) HT_.out rfl rfl (.inl ⟨by rfl, ?_⟩) ?_ ?_; rotate_left
                  · intro w'; go_simp; with_reducible rfl
                  rotate_left
                  · simp only [pt_, pn_, sz_, ss_, i64_w, i32_w]; rfl
                  refine pu_ (i := 11) (N := some 27) (v := ?_) (a' := ?_) HT_.out rfl rfl (.inl ⟨by rfl, ?_⟩) ?_ ?_; rotate_left
                  · intro w'; go_simp; with_reducible rfl
                  rotate_left
                  · simp only [pt_, pn_, sz_, ss_, i64_w, i32_w]; rfl
                  (refine last_ (i := 12) (N := some 28) #[true, true, true, true, true, true, true, true, true, true, true, true, true, false, false] rfl rfl (one_of HT_.out (by kernel_rfl)) (by decide) (fun K hK => ?_)); (refine value_ (w1 := ?_) (v := ?_) (by rfl) rfl ?_ ?_)
                  rotate_left 2
                  · go_simp
                    constructor
                    · rfl
                    · rfl
                  (refine hK.out _ _ ?_); (clear hK K); (refine norm_ (a' := ?_) ?_ ?_)
                  rotate_left
                  · show Act.put _ (some 28) _ = _
                    (simp only [pt_, pn_, sz_, ss_, i64_w, i32_w]); (rfl)
                  (refine last_ (i := 13) (N := some 29) #[true, true, true, true, true, true, true, true, true, true, true, true, true, true, false] rfl rfl (one_of HT_.out (by kernel_rfl)) (by decide) (fun K hK => ?_)); (refine Kd.N_append_step (Kd.slice 85 k85) (w0 := w) w.heap.size (by rfl) (.tmp 16) (.tmp 28) 59 74 (.slice none 0 0) 24 rfl Try.underlying59 info74 rfl (by decide) (by omega) u3 x3_1 y106 [.slice A104_0 y106.length c104_0] (fun k_ => (P0_ k_ ∨ w.heap.size ≤ k_)) (fun k_ => ((fun k_ => (P0_ k_ ∨ w.heap.size ≤ k_))) k_ ∧ some k_ ≠ (u3 : Value).ownBlock) rfl rfl ?aP (fun _ hk => hk) ?aF ?aO ?aB ?aS ?aL ?_); ((case aP => exact (Kd.FK_slice_mk (Kd.V_reads' (Kd.V_mono (ok' := (fun k_ => ((fun k_ => (P0_ k_ ∨ w.heap.size ≤ k_))) k_ ∧ some k_ ≠ (u3 : Value).ownBlock)) (HO110.out) (fun k_ hk => ⟨hk.1, hk.2⟩))).2.1 (Kd.V_F (Kd.V_mono (ok' := (fun k_ => ((fun k_ => (P0_ k_ ∨ w.heap.size ≤ k_))) k_ ∧ some k_ ≠ (u3 : Value).ownBlock)) (HO110.out) (fun k_ hk => ⟨hk.1, hk.2⟩)))))); ((case aB => exact (by repeat (first | (with_reducible first | exact HB.out | apply y1_ | apply y2_ | apply y3_) | exact HB.out))))
                  ((case aF => exact (fun k_ hk => (.inr (Nat.le_trans (below_size (by repeat (first | (with_reducible first | exact HB.out | apply y1_ | apply y2_ | apply y3_) | exact HB.out))) hk))))); ((case aO => exact (by (with_reducible repeat (first | apply Kd.N_alloc | apply Kd.N_drewN | apply Kd.N_drew)); exact HO_3.out))); ((case aS => exact (below_size (by repeat (first | (with_reducible first | exact HB.out | apply y1_ | apply y2_ | apply y3_) | exact HB.out))))); ((case aL => have := LMc10.out; omega)); (intro v112 w13 ho hb hg hat); (rw [← Ny111.out] at ho); (have n0_ := Aside0.mk (Kd.V_afterv (ok := (fun k_ => (P0_ k_ ∨ w.heap.size ≤ k_))) (by (with_reducible repeat (first | apply Kd.V_alloc | apply Kd.V_drewN | apply Kd.V_drew)); exact HO_0.out) hg hat)); (have n1_ := Aside0.mk (Kd.V_afterv (ok := (fun k_ => (P0_ k_ ∨ w.heap.size ≤ k_))) (by (with_reducible repeat (first | apply Kd.V_alloc | apply Kd.V_drewN | apply Kd.V_drew)); exact HL104_0.out) hg hat)); (have n2_ := Aside0.mk (Kd.V_afterv (ok := (fun k_ => (P0_ k_ ∨ w.heap.size ≤ k_))) (by (with_reducible repeat (first | apply Kd.V_alloc | apply Kd.V_drewN | apply Kd.V_drew)); exact HL105_0.out) hg hat))
                  (have n3_ := Aside0.mk (Kd.V_afterv (ok := (fun k_ => (P0_ k_ ∨ w.heap.size ≤ k_))) (by (with_reducible repeat (first | apply Kd.V_alloc | apply Kd.V_drewN | apply Kd.V_drew)); exact HO110.out) hg hat)); (have n4_ := Aside0.mk (hb)); (have n5_ := Aside0.mk (ho)); (clear HO_0 HL104_0 HL105_0 HO110 HB HO_3); (have HO_0 := n0_); (have HL104_0 := n1_); (have HL105_0 := n2_); (have HO110 := n3_); (have HB := n4_); (have HO113 := n5_); (clear n0_ n1_ n2_ n3_ n4_ n5_ ho hb hg hat); (refine hK.out _ _ ?_); (clear hK K); (refine norm_ (a' := ?_) ?_ ?_)
                  rotate_left
                  · show Act.put _ (some 29) _ = _
                    (simp only [pt_, pn_, sz_, ss_, i64_w, i32_w]); (rfl)
                  refine pu_ (i := 14) (N := some 3) (v := ?_) (a' := ?_) HT_.out rfl rfl (.inl ⟨by rfl, ?_⟩) ?_ ?_; rotate_left
                  · intro w'; go_simp; with_reducible rfl
                  rotate_left
                  · simp only [pt_, pn_, sz_, ss_, i64_w, i32_w]; rfl
                  (refine done_ (done_of HT_.out (by kernel_rfl)) ?_); (try go_wp2); (go_roundg k1)
                  case measure => have := HK1.out; omega
                  case rel => exact ⟨(y111), (wrap64 (x4_1 + 1)), (by first | rfl | (simp; done) | (simp [*]; done)), H', ⟨by have := HK1.out; omega⟩, ⟨by (with_reducible repeat (first | apply Kd.V_alloc | apply Kd.V_drewN | apply Kd.V_drew)); exact HO_0.out⟩, ⟨by (with_reducible repeat (first | apply Kd.N_alloc | apply Kd.N_drewN | apply Kd.N_drew)); exact HO113.out⟩, ⟨by repeat (first | (with_reducible first | exact HB.out | apply y1_ | apply y2_ | apply y3_) | exact HB.out)⟩⟩
                · rw [if_neg c10] at H
                  exact absurd H (by simp)
              · rw [if_neg c9] at H
                exact absurd H (by simp)
            · rw [if_neg c8] at H
              exact absurd H (by simp)
          · rw [if_neg c6] at H
            exact absurd H (by simp)
        · rw [if_neg c5] at H
          (have c5b0 : decide (x4_1 < 10) = false := decide_eq_false c5); (clear c5); (obtain rfl := Option.some.inj H); (go_wp2); (go_ret); (exact ⟨_, by first | rfl | (simp [errW_none, errW_some] <;> rfl) | (simp [*, errW_none, errW_some] <;> rfl), by (with_reducible repeat (first | apply Kd.N_alloc | apply Kd.N_drewN | apply Kd.N_drew)); exact HO_3.out, by repeat (first | (with_reducible first | exact HB.out | apply y1_ | apply y2_ | apply y3_) | exact HB.out)⟩)
      · rw [if_neg c4] at H
        (have c4b0 : decide (x4_1 < (l0.length : Int)) = false := decide_eq_false c4); (clear c4); (obtain rfl := Option.some.inj H); (go_wp2); (go_ret); (exact ⟨_, by first | rfl | (simp [errW_none, errW_some] <;> rfl) | (simp [*, errW_none, errW_some] <;> rfl), by (with_reducible repeat (first | apply Kd.N_alloc | apply Kd.N_drewN | apply Kd.N_drew)); exact HO_3.out, by repeat (first | (with_reducible first | exact HB.out | apply y1_ | apply y2_ | apply y3_) | exact HB.out)⟩)

end Go.Proofs.Ytpfikmchimlneaa.M3
