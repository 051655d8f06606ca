/- tight -/ -- written by wip/myprint.py
import Derived.Test.YtnklnjghecmihaaL2x0
import Derived.Test.YtnklnjghecmihaaL2x17
namespace Go.Proofs.Ytnklnjghecmihaa.L2
open Go.RowKit Go.Proofs.YtnklnjghecmihaaW aQ dV fP Mine
attribute [local go_sem] iM iO jk jl gW gX iP iQ iK iL dP dR dQ
set_option linter.unusedVariables false
set_option linter.unusedSimpArgs false
theorem Ua {P : Prop} (h : P := by repeat (first | (with_reducible first | exact HK.out | apply Kept.alloc | apply Kept.drewN | apply Kept.drew) | exact HK.out)) : P := h
theorem Ub {P : Prop} (h : P := by (with_reducible repeat first | exact HB.out | apply mG | apply ni | apply ny) <;> exact HB.out) : P := h
theorem V4 {P : Prop} (h : P := by (with_reducible repeat (first | apply Kd.dZ | apply Kd.d_ | apply Kd.eU)); exact eF.out) : P := h
theorem V5 {P : Prop} (h : P := by rintro w' ⟨⟨s0, s1, s2, s3, s4, s5⟩, ⟨s6, s7, s8, s9, s10, s11⟩⟩; go_simp; with_reducible rfl) : P := h
theorem ajk {P : Prop} (h : P := by have := oh.out; have := Ic.out; omega) : P := h

/-! ### api_Msg_155: function 155 -/
mutual
def bQ.l0 : Nat → List (bC) → Int → Int → Int → Option ((List (bC)))
 | 0, _, _, _, _ => none
 | k + 1, x0, x1, x2, x8 => if x8 < x2 then (bQ.l1 k x0 x1 x2 x8 x8) else (some x0)
def bQ.l1 : Nat → List (bC) → Int → Int → Int → Int → Option ((List (bC)))
 | 0, _, _, _, _, _ => none
 | k + 1, x0, x1, x2, x8, x9 => if x9 > x1 then (if 0 ≤ x9 then (if x9 < (x0.length : Int) then (if 0 ≤ (wrap64 (x9 - 1)) then (if (wrap64 (x9 - 1)) < (x0.length : Int) then ((bV.f k ((aj x0 x9).f0) ((aj x0 x9).f1) ((aj x0 x9).f2) ((aj x0 x9).f3) ((aj x0 x9).f4) ((aj x0 x9).f5) ((aj x0 (wrap64 (x9 - 1))).f0) ((aj x0 (wrap64 (x9 - 1))).f1) ((aj x0 (wrap64 (x9 - 1))).f2) ((aj x0 (wrap64 (x9 - 1))).f3) ((aj x0 (wrap64 (x9 - 1))).f4) ((aj x0 (wrap64 (x9 - 1))).f5)).bind fun VA => (if VA < 0 then (bQ.l1 k ((x0.set (x9 : Int).toNat (⟨(aj x0 (wrap64 (x9 - 1))).f0, (aj x0 (wrap64 (x9 - 1))).f1, (aj x0 (wrap64 (x9 - 1))).f2, (aj x0 (wrap64 (x9 - 1))).f3, (aj x0 (wrap64 (x9 - 1))).f4, (aj x0 (wrap64 (x9 - 1))).f5⟩ : bC)).set ((wrap64 (x9 - 1)) : Int).toNat (⟨(aj x0 x9).f0, (aj x0 x9).f1, (aj x0 x9).f2, (aj x0 x9).f3, (aj x0 x9).f4, (aj x0 x9).f5⟩ : bC)) x1 x2 x8 (wrap64 (x9 - 1))) else (bQ.l0 k x0 x1 x2 (wrap64 (x8 + 1))))) else (none)) else (none)) else (none)) else (none)) else (bQ.l0 k x0 x1 x2 (wrap64 (x8 + 1)))
end
def bQ.f (k : Nat) (l0 : List (bC)) (a1 : Int) (a2 : Int)  : Option ((List (bC))) := bQ.l0 k l0 a1 a2 (wrap64 (a1 + 1))
theorem bQ.gB : ∀ k, (∀ y0 y1 y2 y3, dO (bQ.l0 k y0 y1 y2 y3) (bQ.l0 (k + 1) y0 y1 y2 y3)) ∧ (∀ y0 y1 y2 y3 y4, dO (bQ.l1 k y0 y1 y2 y3 y4) (bQ.l1 (k + 1) y0 y1 y2 y3 y4))
 | 0 => ⟨fun _ _ _ _ r h => by simp [bQ.l0] at h, fun _ _ _ _ _ r h => by simp [bQ.l1] at h⟩
 | k + 1 => by
  obtain ⟨lS, ih1⟩ := bQ.gB k
  refine ⟨?_, ?_⟩
  ·intro y0 y1 y2 y3
   unfold bQ.l0
   repeat' (with_reducible first | exact lS _ _ _ _ | exact ih1 _ _ _ _ _ | exact bV.mono _ _ _ _ _ _ _ _ _ _ _ _ _ | exact dO.refl _ | exact dO.none _ | refine dO.ite ?_ ?_ | refine dO.bind ?_ (fun _ => ?_))
  ·intro y0 y1 y2 y3 y4
   unfold bQ.l1
   repeat' (with_reducible first | exact lS _ _ _ _ | exact ih1 _ _ _ _ _ | exact bV.mono _ _ _ _ _ _ _ _ _ _ _ _ _ | exact dO.refl _ | exact dO.none _ | refine dO.ite ?_ ?_ | refine dO.bind ?_ (fun _ => ?_))
theorem bQ.mono : ∀ a0 a1 a2 k, dO (bQ.f k a0 a1 a2) (bQ.f (k + 1) a0 a1 a2) := by
 (intro a0 a1 a2 k); (obtain ⟨lS, ih1⟩ := bQ.gB k); (unfold bQ.f)
 repeat' (with_reducible first | exact lS _ _ _ _ | exact ih1 _ _ _ _ _ | exact bV.mono _ _ _ _ _ _ _ _ _ _ _ _ _ | exact dO.refl _ | exact dO.none _ | refine dO.ite ?_ ?_ | refine dO.bind ?_ (fun _ => ?_))
def bQ.T4 : Bool × List (List Nat × List Nat) := (true, [([], []), ([], []), ([0, 1], [0, 1]), ([2], [2]), ([3], [3]), ([3], [3]), ([3], [3]), ([5, 6, 3], [3, 5, 6]), ([7, 3], [3, 7]), ([3], [3]), ([3], [3]), ([10, 3], [3, 10]), ([9, 11, 3], [3, 9, 11]), ([12, 3], [3, 12]), ([4, 8, 13, 3, 3], [3, 4, 8, 13]), ([14, 3], [3, 14]), ([3, 15], [3, 15])])
def bQ.B4 : List Nat := [0, 0, 3, 7, 15, 15, 15, 111, 239, 15, 15, 1039, 3599, 7695, 16383, 32767, 65535]
theorem bQ.ahI : nX .any (opsOf Try.f155 4) = bQ.T4 := by kernel_rfl
theorem bQ.V6 : kH bQ.T4.2 bQ.B4 = true := by kernel_rfl
def bQ.T6 : Bool × List (List Nat × List Nat) := (true, [([], []), ([], []), ([], []), ([], []), ([3], [3]), ([], []), ([], []), ([6], [6]), ([5, 7], [5, 7]), ([8], [8]), ([], []), ([], []), ([10, 11], [10, 11]), ([12], [12]), ([0, 1, 0, 1, 5, 6, 7, 8, 9, 13], [0, 1]), ([14, 9, 0, 1, 5, 6, 7, 8, 9, 13], [9, 14]), ([2, 4, 0, 1, 2, 3, 4, 5, 6, 7, 8, 9, 10, 11, 12, 13, 14, 15], [2, 4]), ([16, 13, 15, 0, 1, 2, 3, 4, 5, 6, 7, 8, 9, 10, 11, 12, 13, 14, 15], [13, 16])])
def bQ.B6 : List Nat := [0, 0, 0, 0, 8, 0, 0, 64, 224, 480, 0, 0, 3072, 7168, 16355, 32739, 65535, 131071]
theorem bQ.tab6 : nX .any (opsOf Try.f155 6) = bQ.T6 := by kernel_rfl
theorem bQ.Qr : kH bQ.T6.2 bQ.B6 = true := by kernel_rfl
set_option maxHeartbeats 60000000 in
set_option maxRecDepth 100000 in
theorem bQ.calls (k : Nat) (nI : Nat → Prop) (jq : Value) (l0 : List (bC)) (a1 : Int) (a2 : Int)  (r : List (bC)) (w0 w : World) (hB : Below w0.heap.size w0 w) (ho0 : Kd.R k46 46 w w0.heap.size nI jq l0) (h : bQ.f k l0 a1 a2 = some r) :
  Calls Try.prog 155 #[jq, .int .i64 a1, .int .i64 a2, .func (.func 91) #[] #[]] w fun e w' => e = .returned (.tuple #[]) ∧ Kd.R k46 46 w' w0.heap.size (fun k_ => (nI k_ ∨ w.heap.size ≤ k_)) jq r ∧ Below w0.heap.size w0 w' ∧ Kept w w' (fun k_ => nI k_) := by
 (have vU := Try.underlying46); (have Rz := ah.mk (show Kd.R k46 46 w w0.heap.size (fun k_ => (nI k_ ∨ w.heap.size ≤ k_)) jq l0 from Kd.dU ho0 (fun k_ hk => (.inl hk)))); (have HK := ah.mk (Kept.refl w (fun k_ => nI k_))); (have HW0 := ah.mk hB.size); (have HB := ah.mk hB); (clear hB); (have H : (bQ.l0 k l0 a1 a2 (wrap64 (a1 + 1))) = some r := h); (clear h); (have H' := ah.mk H); (clear H); (go_enter Try.func155, Try.ntmps155); (go_wp2); (go_loopg [8] k (fun kq v8 w' => ∃ (gu : List (bC)) (jd : Int), v8 = .int .i64 jd ∧ ah (bQ.l0 kq gu a1 a2 jd = some r) ∧ ah (kq ≤ k) ∧ ah (Kd.R k46 46 w' w0.heap.size (fun k_ => (nI k_ ∨ w.heap.size ≤ k_)) jq gu) ∧ ah (Kept w w' (fun k_ => nI k_)) ∧ ah (Below w0.heap.size w0 w')))
 case atStart => exact ⟨(l0), (wrap64 (a1 + 1)), (by first | rfl | (simp; done) | (simp [*]; done)), H', ⟨Nat.le_refl _⟩, ⟨by (with_reducible repeat (first | apply Kd.dZ | apply Kd.d_ | apply Kd.eU)); exact Rz.out⟩, ⟨Ua⟩, ⟨Ub⟩⟩
 case round =>
  (clear H'); (try clear c1); (try clear p2); (obtain ⟨gu, jd, rfl, HA, oh, eF, HK, HB⟩ := hrel)
  cases gk with
  | zero => exact absurd HA.out (by simp [bQ.l0])
  | succ k1 =>
   (have H := HA.out); (clear HA); (simp only [bQ.l0] at H); (by_cases c5 : jd < a2)
   ·rw [if_pos c5] at H
    (have zU : decide (jd < a2) = true := decide_eq_true c5); (clear c5); (have H' := ah.mk H); (clear H); (go_wp2); (go_loopg [9] k1 (fun kq v9 w' => ∃ (bG : List (bC)) (g_ : Int), v9 = .int .i64 g_ ∧ ah (bQ.l1 kq bG a1 a2 jd g_ = some r) ∧ ah (kq ≤ k1) ∧ ah (Kd.R k46 46 w' w0.heap.size (fun k_ => (nI k_ ∨ w.heap.size ≤ k_)) jq bG) ∧ ah (Kept w w' (fun k_ => nI k_)) ∧ ah (Below w0.heap.size w0 w')))
    case atStart => exact ⟨(gu), (jd), (by first | rfl | (simp; done) | (simp [*]; done)), H', ⟨Nat.le_refl _⟩, ⟨V4⟩, ⟨Ua⟩, ⟨Ub⟩⟩
    case round =>
     (clear H'); (try clear c1); (try clear p2); (try clear c5); (try clear zU); (try clear p2); (obtain ⟨bG, g_, rfl, HA, Ic, eF, HK, HB⟩ := hrel)
     cases gk with
     | zero => exact absurd HA.out (by simp [bQ.l1])
     | succ k2 =>
      (have H := HA.out); (clear HA); (simp only [bQ.l1] at H); (by_cases c6 : g_ > a1)
      ·rw [if_pos c6] at H
       (have uw : decide (a1 < g_) = true := decide_eq_true c6); (clear c6); (by_cases c7 : 0 ≤ g_)
       ·rw [if_pos c7] at H
        (have FP : decide (0 ≤ g_) = true := decide_eq_true c7); (clear c7); (by_cases c8 : g_ < (bG.length : Int))
        ·rw [if_pos c8] at H
         (have T_ : decide (g_ < (bG.length : Int)) = true := decide_eq_true c8); (clear c8); (obtain ⟨lN, ahJ⟩ : ∃ j_ : Int, (wrap64 (g_ - 1)) = j_ := ⟨_, rfl⟩); (replace H : (if 0 ≤ (lN) then (if (lN) < (bG.length : Int) then ((bV.f k2 ((aj bG g_).f0) ((aj bG g_).f1) ((aj bG g_).f2) ((aj bG g_).f3) ((aj bG g_).f4) ((aj bG g_).f5) ((aj bG (lN)).f0) ((aj bG (lN)).f1) ((aj bG (lN)).f2) ((aj bG (lN)).f3) ((aj bG (lN)).f4) ((aj bG (lN)).f5)).bind fun VA => (if VA < 0 then (bQ.l1 k2 ((bG.set (g_ : Int).toNat (⟨(aj bG (lN)).f0, (aj bG (lN)).f1, (aj bG (lN)).f2, (aj bG (lN)).f3, (aj bG (lN)).f4, (aj bG (lN)).f5⟩ : bC)).set ((lN) : Int).toNat (⟨(aj bG g_).f0, (aj bG g_).f1, (aj bG g_).f2, (aj bG g_).f3, (aj bG g_).f4, (aj bG g_).f5⟩ : bC)) a1 a2 jd lN) else (bQ.l0 k2 bG a1 a2 (wrap64 (jd + 1))))) else (none)) else (none)) = some r := by first | (rw [ahJ] at H; exact H) | (simp only [ahJ] at H ⊢; exact H))
         (have aM7 : (IntKind.i64.wrap (g_ - 1)) = lN := (dM _).trans ahJ); (by_cases c10 : 0 ≤ (lN))
         ·rw [if_pos c10] at H
          (have vV : decide (0 ≤ (lN)) = true := decide_eq_true c10); (clear c10); (by_cases c11 : (lN) < (bG.length : Int))
          ·rw [if_pos c11] at H
           (have II : decide ((lN) < (bG.length : Int)) = true := decide_eq_true c11); (clear c11); (replace H := Option.bind_eq_some_iff.mp H); (obtain ⟨VA, NZ, H⟩ := H); (replace H : (if VA < 0 then (bQ.l1 k2 ((bG.set (g_ : Int).toNat (⟨(aj bG (lN)).f0, (aj bG (lN)).f1, (aj bG (lN)).f2, (aj bG (lN)).f3, (aj bG (lN)).f4, (aj bG (lN)).f5⟩ : bC)).set ((lN) : Int).toNat (⟨(aj bG g_).f0, (aj bG g_).f1, (aj bG g_).f2, (aj bG g_).f3, (aj bG g_).f4, (aj bG g_).f5⟩ : bC)) a1 a2 jd lN) else (bQ.l0 k2 bG a1 a2 (wrap64 (jd + 1)))) = some r := H); (have A12 := ah.mk NZ); (clear NZ); (by_cases c13 : VA < 0)
           ·rw [if_pos c13] at H
            (have aeY : decide (VA < 0) = true := decide_eq_true c13); (clear c13); (obtain ⟨y150, hy150⟩ : ∃ y_ : List (bC), y_ = (bG.set (g_ : Int).toNat (⟨(aj bG (lN)).f0, (aj bG (lN)).f1, (aj bG (lN)).f2, (aj bG (lN)).f3, (aj bG (lN)).f4, (aj bG (lN)).f5⟩ : bC)) := ⟨_, rfl⟩); (replace H : (bQ.l1 k2 (y150.set ((lN) : Int).toNat (⟨(aj bG g_).f0, (aj bG g_).f1, (aj bG g_).f2, (aj bG g_).f3, (aj bG g_).f4, (aj bG g_).f5⟩ : bC)) a1 a2 jd lN) = some r := by first | (rw [hy150]; with_reducible exact H) | (have kJ := (Option.bind_some _ _).symm.trans H; rw [hy150]; with_reducible exact kJ) | (have kJ := (Option.bind_some _ _).symm.trans H; with_reducible exact kJ) | with_reducible exact H | (rw [hy150]; exact H) | exact H); (have axE := ah.mk hy150); (clear hy150); (obtain ⟨y151, hy151⟩ : ∃ y_ : List (bC), y_ = (y150.set ((lN) : Int).toNat (⟨(aj bG g_).f0, (aj bG g_).f1, (aj bG g_).f2, (aj bG g_).f3, (aj bG g_).f4, (aj bG g_).f5⟩ : bC)) := ⟨_, rfl⟩)
            (replace H : (bQ.l1 k2 y151 a1 a2 jd lN) = some r := by first | (rw [hy151]; with_reducible exact H) | (have kJ := (Option.bind_some _ _).symm.trans H; rw [hy151]; with_reducible exact kJ) | (have kJ := (Option.bind_some _ _).symm.trans H; with_reducible exact kJ) | with_reducible exact H | (rw [hy151]; exact H) | exact H); (have axF := ah.mk hy151); (clear hy151); (have H' := ah.mk H); (clear H); (try go_wp2); (replace eF := ah.mk (Kd.eU eF.out)); (replace HK := ah.mk (Kept.drew HK.out)); (replace HB := ah.mk (fB HB.out)); (obtain ⟨aO8, aO9, axG⟩ := Kd.fJ eF.out); ((first | subst axG | (injection axG with EJ Pz EK; have PD := EJ.symm; have PE := EK.symm; clear EJ Pz EK; subst PD; subst PE))); (have acI : 0 ≤ (g_ : Int) := of_decide_eq_true (by first | (with_reducible assumption) | assumption)); (have acJ : g_ < (bG.length : Int) := of_decide_eq_true (by first | (with_reducible assumption) | assumption))
            (obtain ⟨N7, auh, FZ, F5, F6, F7, F8, F9⟩ := gJ (Kd.dh eF.out).2.2 g_ acI acJ); (cases auh); (replace acI := eq_true acI); (replace acJ := eq_true acJ); (have acK : 0 ≤ ((lN) : Int) := of_decide_eq_true (by first | (with_reducible assumption) | assumption)); (have acL : (lN) < (bG.length : Int) := of_decide_eq_true (by first | (with_reducible assumption) | assumption)); (obtain ⟨ajl, aui, Gf, Gg, Gh, Gi, Gj, Gl⟩ := gJ (Kd.dh eF.out).2.2 (lN) acK acL); (obtain rfl : N7 = ajl := (by injection aui)); (replace acK := eq_true acK); (replace acL := eq_true acL)
            refine jP (n := 17) (S := fun w' => MF (N7.add ((g_).toNat * 6)) (aj bG g_) w' ∧ MF (N7.add (((lN)).toNat * 6)) (aj bG (lN)) w') (ds := []) #[false, false, false, false, false, false, false, false, false, false, false, false, false, false, false, false, false] (by kernel_rfl) rfl rfl ⟨⟨FZ, F5, F6, F7, F8, F9⟩, ⟨Gf, Gg, Gh, Gi, Gj, Gl⟩⟩ (fun hHeld => ?_); refine gU bQ.ahI bQ.V6 (fun bI mF => ?_)
            (generalize wr.drew = w16 at eF HK HB FZ F5 F6 F7 F8 F9 Gf Gg Gh Gi Gj Gl hHeld ⊢); (refine gI 0 18 bI.out ?_)
            refine gI 1 19 bI.out ?_
            refine gI 2 20 bI.out ?_
            refine gI 3 21 bI.out ?_
            refine gI 4 22 bI.out ?_
            refine gI 5 23 bI.out ?_
            refine gI 6 24 bI.out ?_
            refine gI 7 25 bI.out ?_
            refine gI 9 27 bI.out ?_
            refine gI 10 28 bI.out ?_
            refine gI 11 29 bI.out ?_
            refine gI 12 30 bI.out ?_
            refine wZ 8 26 bI.out mF.out rfl hHeld (V5) ?_
            refine wZ 13 31 bI.out mF.out rfl hHeld (V5) ?_
            (refine kN (i := 14) (N := some 32) #[true, true, true, true, true, true, true, true, true, true, true, true, true, true, true, false, false] rfl rfl (gG bI.out (by kernel_rfl)) (by decide) (fun K hK => ?_)); (refine Ec Try.func91 (by kernel_rfl) rfl #[.agg #[.int .u8 ((aj bG g_).f0), .int .i64 ((aj bG g_).f1), .string ((aj bG g_).f2), .string ((aj bG g_).f3), .string ((aj bG g_).f4), .int .u64 ((aj bG g_).f5)], .agg #[.int .u8 ((aj bG (lN)).f0), .int .i64 ((aj bG (lN)).f1), .string ((aj bG (lN)).f2), .string ((aj bG (lN)).f3), .string ((aj bG (lN)).f4), .int .u64 ((aj bG (lN)).f5)]] (by rfl) rfl rfl (by (try simp only [List.map_toArray, List.map_cons, List.map_nil]); first | done | (simp only [ahJ]; rfl) | rfl | (simp only [List.length_drop, List.length_take]; rfl)) ?_)
            (with_reducible refine (bV.calls k2 ((aj bG g_).f0) ((aj bG g_).f1) ((aj bG g_).f2) ((aj bG g_).f3) ((aj bG g_).f4) ((aj bG g_).f5) ((aj bG (lN)).f0) ((aj bG (lN)).f1) ((aj bG (lN)).f2) ((aj bG (lN)).f3) ((aj bG (lN)).f4) ((aj bG (lN)).f5) VA _ A12.out).mono ?_); (rintro e w18 ⟨rfl, hb⟩); (have HS_ := And.intro (yR hb hHeld.1) (yR hb hHeld.2)); (refine ⟨_, rfl, ?_⟩); (replace eF := ah.mk (Kd.dG (V4) hb)); (replace HK := ah.mk (Kept.below (S := (fun k_ => nI k_)) (Ua) hb)); (replace HB := ah.mk (ak (Ub) hb)); ((try clear hb)); ((try clear hb2)); ((try clear hk)); ((try clear hi))
            (refine hK.out _ _ HS_ (fun hHeld => ?_)); (clear hK K); (refine fC (a' := ?_) ?_ ?_)
            rotate_left
            ·show Act.put _ (some 32) _ = _
             (simp only [mM, mO, mP, mQ, dM, eu]); (rfl)
            refine gI 15 33 bI.out ?_
            refine gI 16 34 bI.out ?_
            (refine lU (jh bI.out (by kernel_rfl)) ?_); (try go_wp2); (replace eF := ah.mk (Kd.eU eF.out)); (replace HK := ah.mk (Kept.drew HK.out)); (replace HB := ah.mk (fB HB.out)); (have auj : 0 ≤ ((lN) : Int) := of_decide_eq_true (by first | (with_reducible assumption) | assumption)); (have auk : (lN) < (bG.length : Int) := of_decide_eq_true (by first | (with_reducible assumption) | assumption)); (obtain ⟨axH, aJ8, Ya, Yb, Yc, Yd, Ye, Yf⟩ := gJ (Kd.dh eF.out).2.2 (lN) auj auk); (obtain rfl : N7 = axH := (by injection aJ8)); (replace auj := eq_true auj); (replace auk := eq_true auk); (have aul : 0 ≤ (g_ : Int) := of_decide_eq_true (by first | (with_reducible assumption) | assumption)); (have aum : g_ < (bG.length : Int) := of_decide_eq_true (by first | (with_reducible assumption) | assumption)); (obtain ⟨axI, aJ9, Yg, Yh, Yi, Yj, Yk, Yl⟩ := gJ (Kd.dh eF.out).2.2 g_ aul aum); (obtain rfl : N7 = axI := (by injection aJ9))
            (replace aul := eq_true aul); (replace aum := eq_true aum); (have p14 : 0 ≤ (g_ : Int) := of_decide_eq_true (by first | (with_reducible assumption) | assumption)); (have q14 : (g_ : Int) < ((bG.length : Int) : Int) := of_decide_eq_true (by first | (with_reducible assumption) | assumption)); (obtain ⟨xg, aO_, axJ, axK, aJ_, aPa, axL⟩ := Kd.Xq eF.out (by omega)); ((first | cases axJ | (injection axJ with Ym en_ ec_; (first | subst Ym | (injection Ym with Ym; subst Ym)); subst ec_; clear en_))); (have QT := ah.mk axK); (have aKa := ah.mk axL); (clear axK aJ_ axL); (have zx := ah.mk (show (nI xg ∨ w.heap.size ≤ xg) from (eF.out.1 _ rfl))); ((first | simp only [add_plain] at FZ | skip)); ((first | simp only [add_plain] at F5 | skip)); ((first | simp only [add_plain] at F6 | skip)); ((first | simp only [add_plain] at F7 | skip)); ((first | simp only [add_plain] at F8 | skip)); ((first | simp only [add_plain] at F9 | skip)); ((first | simp only [add_plain] at Gf | skip)); ((first | simp only [add_plain] at Gg | skip)); ((first | simp only [add_plain] at Gh | skip))
            ((first | simp only [add_plain] at Gi | skip)); ((first | simp only [add_plain] at Gj | skip)); ((first | simp only [add_plain] at Gl | skip)); ((first | simp only [add_plain] at Ya | skip)); ((first | simp only [add_plain] at Yb | skip)); ((first | simp only [add_plain] at Yc | skip)); ((first | simp only [add_plain] at Yd | skip)); ((first | simp only [add_plain] at Ye | skip)); ((first | simp only [add_plain] at Yf | skip)); ((first | simp only [add_plain] at Yg | skip)); ((first | simp only [add_plain] at Yh | skip)); ((first | simp only [add_plain] at Yi | skip)); ((first | simp only [add_plain] at Yj | skip)); ((first | simp only [add_plain] at Yk | skip)); ((first | simp only [add_plain] at Yl | skip)); (obtain ⟨aKb, ajm, ajn, CJ, CO⟩ := Kd.uq eF.out z46 (g_ : Int) p14 q14); (obtain rfl := l7 ajn); (have Yn : World.cell? _ ⟨xg, (g_ : Int).toNat * 6, none⟩ = some (.int .u8 ((aj bG g_).f0)) := CJ 0 _ rfl); (have Yo : World.cell? _ ⟨xg, (g_ : Int).toNat * 6 + 1, none⟩ = some (.int .i64 ((aj bG g_).f1)) := CJ 1 _ rfl)
            (have Yp : World.cell? _ ⟨xg, (g_ : Int).toNat * 6 + 2, none⟩ = some (.string ((aj bG g_).f2)) := CJ 2 _ rfl); (have Yq : World.cell? _ ⟨xg, (g_ : Int).toNat * 6 + 3, none⟩ = some (.string ((aj bG g_).f3)) := CJ 3 _ rfl); (have Yr : World.cell? _ ⟨xg, (g_ : Int).toNat * 6 + 4, none⟩ = some (.string ((aj bG g_).f4)) := CJ 4 _ rfl); (have Yt : World.cell? _ ⟨xg, (g_ : Int).toNat * 6 + 5, none⟩ = some (.int .u64 ((aj bG g_).f5)) := CJ 5 _ rfl); (have Yu : World.frozen? _ ⟨xg, (g_ : Int).toNat * 6, none⟩ = false := CO 0); (have Yv : World.frozen? _ ⟨xg, (g_ : Int).toNat * 6 + 1, none⟩ = false := CO 1); (have Yw : World.frozen? _ ⟨xg, (g_ : Int).toNat * 6 + 2, none⟩ = false := CO 2); (have Yx : World.frozen? _ ⟨xg, (g_ : Int).toNat * 6 + 3, none⟩ = false := CO 3); (have Yy : World.frozen? _ ⟨xg, (g_ : Int).toNat * 6 + 4, none⟩ = false := CO 4); (have Yz : World.frozen? _ ⟨xg, (g_ : Int).toNat * 6 + 5, none⟩ = false := CO 5); (clear ajm CJ CO ajn); (replace p14 := eq_true p14); (replace q14 := eq_true q14)
            (obtain ⟨aPb, aq2, axM, aq3, axN⟩ := Kd.uq eF.out z46 (g_ : Int) (of_decide_eq_true (by first | (with_reducible assumption) | assumption)) (by have h_ : (g_ : Int) < ((bG.length : Int) : Int) := of_decide_eq_true (by first | (with_reducible assumption) | assumption); first | exact h_ | (have e_ := (Kd.dh eF.out).1; omega) | simpa using h_)); (obtain rfl := l7 axM)
            (have aun := (Kd.P9 eF.out (g_ : Int) (of_decide_eq_true (by first | (with_reducible assumption) | assumption)) (by have h_ : (g_ : Int) < ((bG.length : Int) : Int) := of_decide_eq_true (by first | (with_reducible assumption) | assumption); first | exact h_ | (have e_ := (Kd.dh eF.out).1; omega) | simpa using h_) (seg := [.int .u8 ((aj bG (lN)).f0), .int .i64 ((aj bG (lN)).f1), .string ((aj bG (lN)).f2), .string ((aj bG (lN)).f3), .string ((aj bG (lN)).f4), .int .u64 ((aj bG (lN)).f5)]) (j := 0) aq2 aq3 (show 6 ≤ 6 from by decide) (x' := (⟨(aj bG (lN)).f0, (aj bG (lN)).f1, (aj bG (lN)).f2, (aj bG (lN)).f3, (aj bG (lN)).f4, (aj bG (lN)).f5⟩ : bC)) (jv _ _ _ (⟨(aj bG (lN)).f0, (aj bG (lN)).f1, (aj bG (lN)).f2, (aj bG (lN)).f3, (aj bG (lN)).f4, (aj bG (lN)).f5⟩ : bC) ) (fun _ hk => hk)).1); (rw [← axE.out] at aun); (have amN := ah.mk aun); (clear aq2 aq3 axN axM aun); (have V7 : 0 ≤ ((lN) : Int) := of_decide_eq_true (by first | (with_reducible assumption) | assumption))
            (have V8 : ((lN) : Int) < ((bG.length : Int) : Int) := of_decide_eq_true (by first | (with_reducible assumption) | assumption)); (obtain ⟨aPc, axO, axP, Uc, Ud⟩ := Kd.uq amN.out z46 ((lN) : Int) V7 V8); (obtain rfl := l7 axP); (have ajo : World.cell? _ ⟨xg, ((lN) : Int).toNat * 6, none⟩ = some (.int .u8 ((aj y150 (lN)).f0)) := Uc 0 _ rfl); (have ajp : World.cell? _ ⟨xg, ((lN) : Int).toNat * 6 + 1, none⟩ = some (.int .i64 ((aj y150 (lN)).f1)) := Uc 1 _ rfl); (have ajq : World.cell? _ ⟨xg, ((lN) : Int).toNat * 6 + 2, none⟩ = some (.string ((aj y150 (lN)).f2)) := Uc 2 _ rfl); (have ajr : World.cell? _ ⟨xg, ((lN) : Int).toNat * 6 + 3, none⟩ = some (.string ((aj y150 (lN)).f3)) := Uc 3 _ rfl); (have ajs : World.cell? _ ⟨xg, ((lN) : Int).toNat * 6 + 4, none⟩ = some (.string ((aj y150 (lN)).f4)) := Uc 4 _ rfl); (have ajt : World.cell? _ ⟨xg, ((lN) : Int).toNat * 6 + 5, none⟩ = some (.int .u64 ((aj y150 (lN)).f5)) := Uc 5 _ rfl); (have aju : World.frozen? _ ⟨xg, ((lN) : Int).toNat * 6, none⟩ = false := Ud 0)
            (have ajv : World.frozen? _ ⟨xg, ((lN) : Int).toNat * 6 + 1, none⟩ = false := Ud 1); (have ajw : World.frozen? _ ⟨xg, ((lN) : Int).toNat * 6 + 2, none⟩ = false := Ud 2); (have ajx : World.frozen? _ ⟨xg, ((lN) : Int).toNat * 6 + 3, none⟩ = false := Ud 3); (have ajy : World.frozen? _ ⟨xg, ((lN) : Int).toNat * 6 + 4, none⟩ = false := Ud 4); (have ajz : World.frozen? _ ⟨xg, ((lN) : Int).toNat * 6 + 5, none⟩ = false := Ud 5); (clear axO Uc Ud axP); (replace V7 := eq_true V7); (replace V8 := eq_true V8); (obtain ⟨aPd, aq4, axQ, aq5, axR⟩ := Kd.uq amN.out z46 ((lN) : Int) (of_decide_eq_true (by first | (with_reducible assumption) | assumption)) (by have h_ : ((lN) : Int) < ((bG.length : Int) : Int) := of_decide_eq_true (by first | (with_reducible assumption) | assumption); first | exact h_ | (have e_ := (Kd.dh eF.out).1; omega) | simpa using h_)); (obtain rfl := l7 axQ)
            (have auo := (Kd.P9 amN.out ((lN) : Int) (of_decide_eq_true (by first | (with_reducible assumption) | assumption)) (by have h_ : ((lN) : Int) < ((bG.length : Int) : Int) := of_decide_eq_true (by first | (with_reducible assumption) | assumption); first | exact h_ | (have e_ := (Kd.dh eF.out).1; omega) | simpa using h_) (seg := [.int .u8 ((aj bG g_).f0), .int .i64 ((aj bG g_).f1), .string ((aj bG g_).f2), .string ((aj bG g_).f3), .string ((aj bG g_).f4), .int .u64 ((aj bG g_).f5)]) (j := 0) aq4 aq5 (show 6 ≤ 6 from by decide) (x' := (⟨(aj bG g_).f0, (aj bG g_).f1, (aj bG g_).f2, (aj bG g_).f3, (aj bG g_).f4, (aj bG g_).f5⟩ : bC)) (jv _ _ _ (⟨(aj bG g_).f0, (aj bG g_).f1, (aj bG g_).f2, (aj bG g_).f3, (aj bG g_).f4, (aj bG g_).f5⟩ : bC) ) (fun _ hk => hk)).1); (rw [← axF.out] at auo); (have axS := ah.mk auo); (clear aq4 aq5 axR axQ auo)
            refine jP (n := 18) (S := fun w' => F46 xg ((((lN)).toNat * 6)) (aj bG (lN)) w' ∧ F46 xg (((g_).toNat * 6)) (aj bG g_) w') (ds := [15, 17]) #[false, false, false, false, false, false, false, false, false, false, false, false, false, false, false, false, false, false] (by kernel_rfl) rfl rfl ⟨⟨Ya, Yb, Yc, Yd, Ye, Yf⟩, ⟨Yg, Yh, Yi, Yj, Yk, Yl⟩⟩ (fun hHeld => ?_); refine gU bQ.tab6 bQ.Qr (fun bI mF => ?_)
            (generalize w18.drew = w19 at eF HK HB aKa amN axS Yu Yv Yw Yx Yy Yz aju ajv ajw ajx ajy ajz FZ F5 F6 F7 F8 F9 Gf Gg Gh Gi Gj Gl Ya Yb Yc Yd Ye Yf Yg Yh Yi Yj Yk Yl Yn Yo Yp Yq Yr Yt ajo ajp ajq ajr ajs ajt hHeld ⊢); (refine gI 0 37 bI.out ?_)
            refine gI 1 38 bI.out ?_
            refine gI 2 39 bI.out ?_
            refine gI 3 40 bI.out ?_
            refine gI 4 41 bI.out ?_
            refine gI 5 42 bI.out ?_
            refine gI 6 43 bI.out ?_
            refine gI 7 44 bI.out ?_
            refine gI 8 45 bI.out ?_
            refine gI 10 47 bI.out ?_
            refine gI 11 48 bI.out ?_
            refine gI 12 49 bI.out ?_
            refine wZ 9 46 bI.out mF.out rfl hHeld (V5) ?_
            refine wZ 13 50 bI.out mF.out rfl hHeld (V5) ?_
            refine gI 14 51 bI.out ?_
            (refine P_ (i := 15) (N := none) #[true, true, true, true, true, true, true, true, true, true, true, true, true, true, true, true, false, false] rfl rfl (gG bI.out (by kernel_rfl)) (by decide) (fun K hK => ?_)); (refine t_ (w1 := ?_) (by rfl) rfl ?_ ?_)
            rotate_left
            ·go_simp
             rfl
            (refine hK.out _ _ ?_); (clear hK K); (refine gI 16 52 bI.out ?_)
            (refine P_ (i := 17) (N := none) #[true, true, true, true, true, true, true, true, true, true, true, true, true, true, true, true, true, true] rfl rfl (gG bI.out (by kernel_rfl)) (by decide) (fun K hK => ?_)); (refine t_ (w1 := ?_) (by rfl) rfl ?_ ?_)
            rotate_left
            ·simp [go_sem, World.setCells, show k46.sz = 6 from rfl, Nat.add_assoc] at ajo ajp ajq ajr ajs ajt aju ajv ajw ajx ajy ajz
             (go_simp); (rfl)
            (refine hK.out _ _ ?_); (clear hK K); (refine lU (jh bI.out (by kernel_rfl)) ?_); (try go_wp2); (go_roundg k2)
            case measure => have := oh.out; have := Ic.out; omega
            case rel => exact ⟨(y151), (lN), (by first | rfl | (simp; done) | (simp only [← ahJ] <;> (first | rfl | simp)) | (simp [*]; done)), H', ⟨ajk⟩, ⟨by (with_reducible repeat (first | apply Kd.dZ | apply Kd.d_ | apply Kd.eU)); exact axS.out⟩, ⟨by repeat (first | (with_reducible first | exact HK.out | apply Kept.alloc | apply Kept.drewN | apply Kept.drew | refine Kept.setCell ?_ zx.out _ | refine Kept.setCell ?_ zx.out _ | refine Kept.setCell ?_ zx.out _ | refine Kept.setCell ?_ zx.out _ | refine Kept.setCell ?_ zx.out _ | refine Kept.setCell ?_ zx.out _ | refine Kept.setCell ?_ zx.out _ | refine Kept.setCell ?_ zx.out _ | refine Kept.setCell ?_ zx.out _ | refine Kept.setCell ?_ zx.out _ | refine Kept.setCell ?_ zx.out _ | refine Kept.setCell ?_ zx.out _) | exact HK.out)⟩, ⟨by (with_reducible repeat first | exact HB.out | apply mG | apply ni | apply ny | refine jW ?_ QT.out | refine jW ?_ QT.out | refine jW ?_ QT.out | refine jW ?_ QT.out | refine jW ?_ QT.out | refine jW ?_ QT.out | refine jW ?_ QT.out | refine jW ?_ QT.out | refine jW ?_ QT.out | refine jW ?_ QT.out | refine jW ?_ QT.out | refine jW ?_ QT.out) <;> exact HB.out⟩⟩
           ·rw [if_neg c13] at H
            (have aeY : decide (VA < 0) = false := decide_eq_false c13); (clear c13); (have H' := ah.mk H); (clear H); (try go_wp2); (replace eF := ah.mk (Kd.eU eF.out)); (replace HK := ah.mk (Kept.drew HK.out)); (replace HB := ah.mk (fB HB.out)); (obtain ⟨aPe, aPf, axT⟩ := Kd.fJ eF.out); ((first | subst axT | (injection axT with EJ Pz EK; have PD := EJ.symm; have PE := EK.symm; clear EJ Pz EK; subst PD; subst PE))); (have acI : 0 ≤ (g_ : Int) := of_decide_eq_true (by first | (with_reducible assumption) | assumption)); (have acJ : g_ < (bG.length : Int) := of_decide_eq_true (by first | (with_reducible assumption) | assumption)); (obtain ⟨N7, auh, FZ, F5, F6, F7, F8, F9⟩ := gJ (Kd.dh eF.out).2.2 g_ acI acJ); (cases auh); (replace acI := eq_true acI); (replace acJ := eq_true acJ); (have acK : 0 ≤ ((lN) : Int) := of_decide_eq_true (by first | (with_reducible assumption) | assumption))
            (have acL : (lN) < (bG.length : Int) := of_decide_eq_true (by first | (with_reducible assumption) | assumption)); (obtain ⟨ajl, aui, Gf, Gg, Gh, Gi, Gj, Gl⟩ := gJ (Kd.dh eF.out).2.2 (lN) acK acL); (obtain rfl : N7 = ajl := (by injection aui)); (replace acK := eq_true acK); (replace acL := eq_true acL)
            refine jP (n := 17) (S := fun w' => MF (N7.add ((g_).toNat * 6)) (aj bG g_) w' ∧ MF (N7.add (((lN)).toNat * 6)) (aj bG (lN)) w') (ds := []) #[false, false, false, false, false, false, false, false, false, false, false, false, false, false, false, false, false] (by kernel_rfl) rfl rfl ⟨⟨FZ, F5, F6, F7, F8, F9⟩, ⟨Gf, Gg, Gh, Gi, Gj, Gl⟩⟩ (fun hHeld => ?_); refine gU bQ.ahI bQ.V6 (fun bI mF => ?_)
            (generalize wr.drew = w22 at eF HK HB FZ F5 F6 F7 F8 F9 Gf Gg Gh Gi Gj Gl hHeld ⊢); (refine gI 0 18 bI.out ?_)
            refine gI 1 19 bI.out ?_
            refine gI 2 20 bI.out ?_
            refine gI 3 21 bI.out ?_
            refine gI 4 22 bI.out ?_
            refine gI 5 23 bI.out ?_
            refine gI 6 24 bI.out ?_
            refine gI 7 25 bI.out ?_
            refine gI 9 27 bI.out ?_
            refine gI 10 28 bI.out ?_
            refine gI 11 29 bI.out ?_
            refine gI 12 30 bI.out ?_
            refine wZ 8 26 bI.out mF.out rfl hHeld (V5) ?_
            refine wZ 13 31 bI.out mF.out rfl hHeld (V5) ?_
            (refine kN (i := 14) (N := some 32) #[true, true, true, true, true, true, true, true, true, true, true, true, true, true, true, false, false] rfl rfl (gG bI.out (by kernel_rfl)) (by decide) (fun K hK => ?_)); (refine Ec Try.func91 (by kernel_rfl) rfl #[.agg #[.int .u8 ((aj bG g_).f0), .int .i64 ((aj bG g_).f1), .string ((aj bG g_).f2), .string ((aj bG g_).f3), .string ((aj bG g_).f4), .int .u64 ((aj bG g_).f5)], .agg #[.int .u8 ((aj bG (lN)).f0), .int .i64 ((aj bG (lN)).f1), .string ((aj bG (lN)).f2), .string ((aj bG (lN)).f3), .string ((aj bG (lN)).f4), .int .u64 ((aj bG (lN)).f5)]] (by rfl) rfl rfl (by (try simp only [List.map_toArray, List.map_cons, List.map_nil]); first | done | (simp only [ahJ]; rfl) | rfl | (simp only [List.length_drop, List.length_take]; rfl)) ?_)
            (with_reducible refine (bV.calls k2 ((aj bG g_).f0) ((aj bG g_).f1) ((aj bG g_).f2) ((aj bG g_).f3) ((aj bG g_).f4) ((aj bG g_).f5) ((aj bG (lN)).f0) ((aj bG (lN)).f1) ((aj bG (lN)).f2) ((aj bG (lN)).f3) ((aj bG (lN)).f4) ((aj bG (lN)).f5) VA _ A12.out).mono ?_); (rintro e w24 ⟨rfl, hb⟩); (have HS_ := And.intro (yR hb hHeld.1) (yR hb hHeld.2)); (refine ⟨_, rfl, ?_⟩); (replace eF := ah.mk (Kd.dG (V4) hb)); (replace HK := ah.mk (Kept.below (S := (fun k_ => nI k_)) (Ua) hb)); (replace HB := ah.mk (ak (Ub) hb)); ((try clear hb)); ((try clear hb2)); ((try clear hk)); ((try clear hi))
            (refine hK.out _ _ HS_ (fun hHeld => ?_)); (clear hK K); (refine fC (a' := ?_) ?_ ?_)
            rotate_left
            ·show Act.put _ (some 32) _ = _
             (simp only [mM, mO, mP, mQ, dM, eu]); (rfl)
            refine gI 15 33 bI.out ?_
            refine gI 16 34 bI.out ?_
            (refine lU (jh bI.out (by kernel_rfl)) ?_); (try go_wp2); (go_roundg k2)
            case measure => have := oh.out; have := Ic.out; omega
            case rel => exact ⟨(bG), (wrap64 (jd + 1)), (by first | rfl | (simp; done) | (simp [*]; done)), H', ⟨ajk⟩, ⟨V4⟩, ⟨Ua⟩, ⟨Ub⟩⟩
          ·rw [if_neg c11] at H
           exact absurd H (by simp)
         ·rw [if_neg c10] at H
          exact absurd H (by simp)
        ·rw [if_neg c8] at H
         exact absurd H (by simp)
       ·rw [if_neg c7] at H
        exact absurd H (by simp)
      ·rw [if_neg c6] at H
       (have uw : decide (a1 < g_) = false := decide_eq_false c6); (clear c6); (have H' := ah.mk H); (clear H); (try go_wp2); (replace eF := ah.mk (Kd.eU eF.out)); (replace HK := ah.mk (Kept.drew HK.out)); (replace HB := ah.mk (fB HB.out)); (refine jP (n := 17) (S := fun w' => True) (ds := []) #[false, false, false, false, false, false, false, false, false, false, false, false, false, false, false, false, false] (by kernel_rfl) rfl rfl trivial (fun hHeld => ?_); refine gU bQ.ahI bQ.V6 (fun bI mF => ?_)); (generalize wr.drew = w25 at eF HK HB hHeld ⊢); (refine gI 0 18 bI.out ?_)
       refine gI 1 19 bI.out ?_
       refine gI 2 20 bI.out ?_
       refine gI 3 21 bI.out ?_
       refine oJ 4 22 bI.out ?_
       refine oJ 5 23 bI.out ?_
       refine oJ 6 24 bI.out ?_
       refine oJ 7 25 bI.out ?_
       refine oJ 8 26 bI.out ?_
       refine oJ 9 27 bI.out ?_
       refine oJ 10 28 bI.out ?_
       refine oJ 11 29 bI.out ?_
       refine oJ 12 30 bI.out ?_
       refine oJ 13 31 bI.out ?_
       refine oJ 14 32 bI.out ?_
       refine oJ 15 33 bI.out ?_
       refine gI 16 34 bI.out ?_
       (refine lU (jh bI.out (by kernel_rfl)) ?_); (try go_wp2); (go_roundg k2)
       case measure => have := oh.out; have := Ic.out; omega
       case rel => exact ⟨(bG), (wrap64 (jd + 1)), (by first | rfl | (simp; done) | (simp [*]; done)), H', ⟨ajk⟩, ⟨V4⟩, ⟨Ua⟩, ⟨Ub⟩⟩
   ·rw [if_neg c5] at H
    (have zU : decide (jd < a2) = false := decide_eq_false c5); (clear c5); (obtain rfl := Option.some.inj H); (go_wp2); (first | go_end0 | ((try simp only [Exit.inBlock, Exit.then]); refine bodyPost_ret (results_none rfl _ _ _) rfl ?_)); (exact ⟨by first | rfl | (simp [*, bg, bn] <;> rfl), V4, Ub, Ua⟩)

end Go.Proofs.Ytnklnjghecmihaa.L2
