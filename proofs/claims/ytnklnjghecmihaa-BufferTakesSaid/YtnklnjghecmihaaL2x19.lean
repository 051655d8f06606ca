/- tight -/ -- written by wip/myprint.py
import Derived.Test.YtnklnjghecmihaaL2x0
namespace Go.Proofs.Ytnklnjghecmihaa.L2
open Go.RowKit Go.Proofs.YtnklnjghecmihaaW aQ dV fP Mine
attribute [local go_sem] iM iO jk jl gW gX iP iQ iK iL dP dR dQ
set_option linter.unusedVariables false
set_option linter.unusedSimpArgs false
theorem aq6 {P : Prop} (h : P := by repeat (first | (with_reducible first | exact HK.out | apply Kept.alloc | apply Kept.drewN | apply Kept.drew) | exact HK.out)) : P := h
theorem aq7 {P : Prop} (h : P := by (with_reducible repeat first | exact HB.out | apply mG | apply ni | apply ny) <;> exact HB.out) : P := h
theorem aq8 {P : Prop} (h : P := by rintro w' ⟨⟨s0, s1, s2, s3, s4, s5⟩, ⟨s6, s7, s8, s9, s10, s11⟩⟩; go_simp; with_reducible rfl) : P := h

/-! ### api_Msg_181: function 181 -/
def dS.l0 : Nat → List (bC) → Int → Int → Int → Int → Option ((List (bC)))
 | 0, _, _, _, _, _ => none
 | k + 1, x0, x1, x2, x3, x10 => if x10 < x3 then (if 0 ≤ (wrap64 (x2 + x10)) then (if (wrap64 (x2 + x10)) < (x0.length : Int) then (if 0 ≤ (wrap64 (x1 + x10)) then (if (wrap64 (x1 + x10)) < (x0.length : Int) then (dS.l0 k ((x0.set ((wrap64 (x1 + x10)) : Int).toNat (⟨(aj x0 (wrap64 (x2 + x10))).f0, (aj x0 (wrap64 (x2 + x10))).f1, (aj x0 (wrap64 (x2 + x10))).f2, (aj x0 (wrap64 (x2 + x10))).f3, (aj x0 (wrap64 (x2 + x10))).f4, (aj x0 (wrap64 (x2 + x10))).f5⟩ : bC)).set ((wrap64 (x2 + x10)) : Int).toNat (⟨(aj x0 (wrap64 (x1 + x10))).f0, (aj x0 (wrap64 (x1 + x10))).f1, (aj x0 (wrap64 (x1 + x10))).f2, (aj x0 (wrap64 (x1 + x10))).f3, (aj x0 (wrap64 (x1 + x10))).f4, (aj x0 (wrap64 (x1 + x10))).f5⟩ : bC)) x1 x2 x3 (wrap64 (x10 + 1))) else (none)) else (none)) else (none)) else (none)) else (some x0)
def dS.f (k : Nat) (l0 : List (bC)) (a1 : Int) (a2 : Int) (a3 : Int)  : Option ((List (bC))) := dS.l0 k l0 a1 a2 a3 0
theorem dS.gB : ∀ k, (∀ y0 y1 y2 y3 y4, dO (dS.l0 k y0 y1 y2 y3 y4) (dS.l0 (k + 1) y0 y1 y2 y3 y4))
 | 0 => fun _ _ _ _ _ r h => by simp [dS.l0] at h
 | k + 1 => by
  have lS := dS.gB k
  ·intro y0 y1 y2 y3 y4
   unfold dS.l0
   repeat' (with_reducible first | exact lS _ _ _ _ _ | exact dO.refl _ | exact dO.none _ | refine dO.ite ?_ ?_ | refine dO.bind ?_ (fun _ => ?_))
theorem dS.mono : ∀ a0 a1 a2 a3 k, dO (dS.f k a0 a1 a2 a3) (dS.f (k + 1) a0 a1 a2 a3) := by
 (intro a0 a1 a2 a3 k); (have lS := dS.gB k); (unfold dS.f)
 repeat' (with_reducible first | exact lS _ _ _ _ _ | exact dO.refl _ | exact dO.none _ | refine dO.ite ?_ ?_ | refine dO.bind ?_ (fun _ => ?_))
def dS.T3 : Bool × List (List Nat × List Nat) := (true, [([], []), ([], []), ([], []), ([1, 2], [1, 2]), ([], []), ([], []), ([], []), ([5, 6], [5, 6]), ([], []), ([], []), ([], []), ([9, 10], [9, 10]), ([8, 11], [8, 11]), ([12], [12]), ([], []), ([], []), ([], []), ([15, 16], [15, 16]), ([14, 17], [14, 17]), ([18], [18]), ([0, 3, 0, 1, 2, 3, 8, 9, 10, 11, 12, 13, 19], [0, 3]), ([20, 13, 0, 1, 2, 3, 8, 9, 10, 11, 12, 13, 19], [13, 20]), ([4, 7, 0, 1, 2, 3, 4, 5, 6, 7, 8, 9, 10, 11, 12, 13, 14, 15, 16, 17, 18, 19, 20, 21], [4, 7]), ([22, 19, 21, 0, 1, 2, 3, 4, 5, 6, 7, 8, 9, 10, 11, 12, 13, 14, 15, 16, 17, 18, 19, 20, 21], [19, 22])])
def dS.B3 : List Nat := [0, 0, 0, 6, 0, 0, 0, 96, 0, 0, 0, 1536, 3840, 7936, 0, 0, 0, 98304, 245760, 507904, 1048335, 2096911, 4194303, 8388607]
theorem dS.amO : nX .any (opsOf Try.f181 3) = dS.T3 := by kernel_rfl
theorem dS.aeZ : kH dS.T3.2 dS.B3 = true := by kernel_rfl
set_option maxHeartbeats 60000000 in
set_option maxRecDepth 100000 in
theorem dS.calls (k : Nat) (nI : Nat → Prop) (jq : Value) (l0 : List (bC)) (a1 : Int) (a2 : Int) (a3 : Int)  (r : List (bC)) (w0 w : World) (hB : Below w0.heap.size w0 w) (ho0 : Kd.R k46 46 w w0.heap.size nI jq l0) (h : dS.f k l0 a1 a2 a3 = some r) :
  Calls Try.prog 181 #[jq, .int .i64 a1, .int .i64 a2, .int .i64 a3, .func (.func 91) #[] #[]] w fun e w' => e = .returned (.tuple #[]) ∧ Kd.R k46 46 w' w0.heap.size (fun k_ => (nI k_ ∨ w.heap.size ≤ k_)) jq r ∧ Below w0.heap.size w0 w' ∧ Kept w w' (fun k_ => nI k_) := by
 (have vU := Try.underlying46); (have Rz := ah.mk (show Kd.R k46 46 w w0.heap.size (fun k_ => (nI k_ ∨ w.heap.size ≤ k_)) jq l0 from Kd.dU ho0 (fun k_ hk => (.inl hk)))); (have HK := ah.mk (Kept.refl w (fun k_ => nI k_))); (have HW0 := ah.mk hB.size); (have HB := ah.mk hB); (clear hB); (have H : (dS.l0 k l0 a1 a2 a3 0) = some r := h); (clear h); (have H' := ah.mk H); (clear H); (go_enter Try.func181, Try.ntmps181); (go_wp2); (go_loopg [10] k (fun kq v10 w' => ∃ (gu : List (bC)) (cO : Int), v10 = .int .i64 cO ∧ ah (dS.l0 kq gu a1 a2 a3 cO = some r) ∧ ah (kq ≤ k) ∧ ah (Kd.R k46 46 w' w0.heap.size (fun k_ => (nI k_ ∨ w.heap.size ≤ k_)) jq gu) ∧ ah (Kept w w' (fun k_ => nI k_)) ∧ ah (Below w0.heap.size w0 w')))
 case atStart => exact ⟨(l0), (0), (by first | rfl | (simp; done) | (simp [*]; done)), H', ⟨Nat.le_refl _⟩, ⟨by (with_reducible repeat (first | apply Kd.dZ | apply Kd.d_ | apply Kd.eU)); exact Rz.out⟩, ⟨aq6⟩, ⟨aq7⟩⟩
 case round =>
  (clear H'); (try clear c1); (try clear p2); (obtain ⟨gu, cO, rfl, HA, oh, eF, HK, HB⟩ := hrel)
  cases gk with
  | zero => exact absurd HA.out (by simp [dS.l0])
  | succ k1 =>
   (have H := HA.out); (clear HA); (simp only [dS.l0] at H); (by_cases c6 : cO < a3)
   ·rw [if_pos c6] at H
    (have uw : decide (cO < a3) = true := decide_eq_true c6); (clear c6); (obtain ⟨qZ, aup⟩ : ∃ j_ : Int, (wrap64 (a2 + cO)) = j_ := ⟨_, rfl⟩); (replace H : (if 0 ≤ (qZ) then (if (qZ) < (gu.length : Int) then (if 0 ≤ (wrap64 (a1 + cO)) then (if (wrap64 (a1 + cO)) < (gu.length : Int) then (dS.l0 k1 ((gu.set ((wrap64 (a1 + cO)) : Int).toNat (⟨(aj gu (qZ)).f0, (aj gu (qZ)).f1, (aj gu (qZ)).f2, (aj gu (qZ)).f3, (aj gu (qZ)).f4, (aj gu (qZ)).f5⟩ : bC)).set ((qZ) : Int).toNat (⟨(aj gu (wrap64 (a1 + cO))).f0, (aj gu (wrap64 (a1 + cO))).f1, (aj gu (wrap64 (a1 + cO))).f2, (aj gu (wrap64 (a1 + cO))).f3, (aj gu (wrap64 (a1 + cO))).f4, (aj gu (wrap64 (a1 + cO))).f5⟩ : bC)) a1 a2 a3 (wrap64 (cO + 1))) else (none)) else (none)) else (none)) else (none)) = some r := by first | (rw [aup] at H; exact H) | (simp only [aup] at H ⊢; exact H)); (have aM8 : (IntKind.i64.wrap (a2 + cO)) = qZ := (dM _).trans aup); (by_cases c8 : 0 ≤ (qZ))
    ·rw [if_pos c8] at H
     (have T_ : decide (0 ≤ (qZ)) = true := decide_eq_true c8); (clear c8); (by_cases c9 : (qZ) < (gu.length : Int))
     ·rw [if_pos c9] at H
      (have Iy : decide ((qZ) < (gu.length : Int)) = true := decide_eq_true c9); (clear c9); (obtain ⟨jX, ajA⟩ : ∃ j_ : Int, (wrap64 (a1 + cO)) = j_ := ⟨_, rfl⟩); (replace H : (if 0 ≤ (jX) then (if (jX) < (gu.length : Int) then (dS.l0 k1 ((gu.set ((jX) : Int).toNat (⟨(aj gu (qZ)).f0, (aj gu (qZ)).f1, (aj gu (qZ)).f2, (aj gu (qZ)).f3, (aj gu (qZ)).f4, (aj gu (qZ)).f5⟩ : bC)).set ((qZ) : Int).toNat (⟨(aj gu (jX)).f0, (aj gu (jX)).f1, (aj gu (jX)).f2, (aj gu (jX)).f3, (aj gu (jX)).f4, (aj gu (jX)).f5⟩ : bC)) a1 a2 a3 (wrap64 (cO + 1))) else (none)) else (none)) = some r := by first | (rw [ajA] at H; exact H) | (simp only [ajA] at H ⊢; exact H)); (have aKc : (IntKind.i64.wrap (a1 + cO)) = jX := (dM _).trans ajA); (by_cases c11 : 0 ≤ (jX))
      ·rw [if_pos c11] at H
       (have II : decide (0 ≤ (jX)) = true := decide_eq_true c11); (clear c11); (by_cases c12 : (jX) < (gu.length : Int))
       ·rw [if_pos c12] at H
        (have uf : decide ((jX) < (gu.length : Int)) = true := decide_eq_true c12); (clear c12); (obtain ⟨aaI, aaJ⟩ : ∃ y_ : List (bC), y_ = (gu.set ((jX) : Int).toNat (⟨(aj gu (qZ)).f0, (aj gu (qZ)).f1, (aj gu (qZ)).f2, (aj gu (qZ)).f3, (aj gu (qZ)).f4, (aj gu (qZ)).f5⟩ : bC)) := ⟨_, rfl⟩); (replace H : (dS.l0 k1 (aaI.set ((qZ) : Int).toNat (⟨(aj gu (jX)).f0, (aj gu (jX)).f1, (aj gu (jX)).f2, (aj gu (jX)).f3, (aj gu (jX)).f4, (aj gu (jX)).f5⟩ : bC)) a1 a2 a3 (wrap64 (cO + 1))) = some r := by first | (rw [aaJ]; with_reducible exact H) | (have kJ := (Option.bind_some _ _).symm.trans H; rw [aaJ]; with_reducible exact kJ) | (have kJ := (Option.bind_some _ _).symm.trans H; with_reducible exact kJ) | with_reducible exact H | (rw [aaJ]; exact H) | exact H); (have axU := ah.mk aaJ); (clear aaJ); (obtain ⟨axV, aaK⟩ : ∃ y_ : List (bC), y_ = (aaI.set ((qZ) : Int).toNat (⟨(aj gu (jX)).f0, (aj gu (jX)).f1, (aj gu (jX)).f2, (aj gu (jX)).f3, (aj gu (jX)).f4, (aj gu (jX)).f5⟩ : bC)) := ⟨_, rfl⟩)
        (replace H : (dS.l0 k1 axV a1 a2 a3 (wrap64 (cO + 1))) = some r := by first | (rw [aaK]; with_reducible exact H) | (have kJ := (Option.bind_some _ _).symm.trans H; rw [aaK]; with_reducible exact kJ) | (have kJ := (Option.bind_some _ _).symm.trans H; with_reducible exact kJ) | with_reducible exact H | (rw [aaK]; exact H) | exact H); (have axW := ah.mk aaK); (clear aaK); (have H' := ah.mk H); (clear H); (try go_wp2); (replace eF := ah.mk (Kd.eU eF.out)); (replace HK := ah.mk (Kept.drew HK.out)); (replace HB := ah.mk (fB HB.out)); (obtain ⟨aKd, aKe, ajB⟩ := Kd.fJ eF.out); ((first | subst ajB | (injection ajB with EJ Pz EK; have PD := EJ.symm; have PE := EK.symm; clear EJ Pz EK; subst PD; subst PE))); (have auq : 0 ≤ ((qZ) : Int) := of_decide_eq_true (by first | (with_reducible assumption) | assumption)); (have aur : (qZ) < (gu.length : Int) := of_decide_eq_true (by first | (with_reducible assumption) | assumption))
        (obtain ⟨axX, e152, YA, YB, YC, YD, YE, YF⟩ := gJ (Kd.dh eF.out).2.2 (qZ) auq aur); (cases e152); (replace auq := eq_true auq); (replace aur := eq_true aur); (have aus : 0 ≤ ((jX) : Int) := of_decide_eq_true (by first | (with_reducible assumption) | assumption)); (have aut : (jX) < (gu.length : Int) := of_decide_eq_true (by first | (with_reducible assumption) | assumption)); (obtain ⟨axY, e153, YG, YH, YI, YJ, YK, YL⟩ := gJ (Kd.dh eF.out).2.2 (jX) aus aut); (obtain rfl : axX = axY := (by injection e153)); (replace aus := eq_true aus); (replace aut := eq_true aut); (have p13 : 0 ≤ ((jX) : Int) := of_decide_eq_true (by first | (with_reducible assumption) | assumption)); (have q13 : ((jX) : Int) < ((gu.length : Int) : Int) := of_decide_eq_true (by first | (with_reducible assumption) | assumption)); (obtain ⟨xk, amP, acM, axZ, aKf, aPg, ax0⟩ := Kd.Xq eF.out (by omega)); ((first | cases acM | (injection acM with Ym en_ ec_; (first | subst Ym | (injection Ym with Ym; subst Ym)); subst ec_; clear en_))); (have QU := ah.mk axZ)
        (have aKg := ah.mk ax0); (clear axZ aKf ax0); (have zy := ah.mk (show (nI xk ∨ w.heap.size ≤ xk) from (eF.out.1 _ rfl))); ((first | simp only [add_plain] at YA | skip)); ((first | simp only [add_plain] at YB | skip)); ((first | simp only [add_plain] at YC | skip)); ((first | simp only [add_plain] at YD | skip)); ((first | simp only [add_plain] at YE | skip)); ((first | simp only [add_plain] at YF | skip)); ((first | simp only [add_plain] at YG | skip)); ((first | simp only [add_plain] at YH | skip)); ((first | simp only [add_plain] at YI | skip)); ((first | simp only [add_plain] at YJ | skip)); ((first | simp only [add_plain] at YK | skip)); ((first | simp only [add_plain] at YL | skip)); (obtain ⟨aPh, ax1, ax2, Ue, Uf⟩ := Kd.uq eF.out z46 ((jX) : Int) p13 q13); (obtain rfl := l7 ax2); (have auu : World.cell? _ ⟨xk, ((jX) : Int).toNat * 6, none⟩ = some (.int .u8 ((aj gu (jX)).f0)) := Ue 0 _ rfl); (have auv : World.cell? _ ⟨xk, ((jX) : Int).toNat * 6 + 1, none⟩ = some (.int .i64 ((aj gu (jX)).f1)) := Ue 1 _ rfl)
        (have auw : World.cell? _ ⟨xk, ((jX) : Int).toNat * 6 + 2, none⟩ = some (.string ((aj gu (jX)).f2)) := Ue 2 _ rfl); (have auy : World.cell? _ ⟨xk, ((jX) : Int).toNat * 6 + 3, none⟩ = some (.string ((aj gu (jX)).f3)) := Ue 3 _ rfl); (have auz : World.cell? _ ⟨xk, ((jX) : Int).toNat * 6 + 4, none⟩ = some (.string ((aj gu (jX)).f4)) := Ue 4 _ rfl); (have auA : World.cell? _ ⟨xk, ((jX) : Int).toNat * 6 + 5, none⟩ = some (.int .u64 ((aj gu (jX)).f5)) := Ue 5 _ rfl); (have auB : World.frozen? _ ⟨xk, ((jX) : Int).toNat * 6, none⟩ = false := Uf 0); (have auC : World.frozen? _ ⟨xk, ((jX) : Int).toNat * 6 + 1, none⟩ = false := Uf 1); (have auD : World.frozen? _ ⟨xk, ((jX) : Int).toNat * 6 + 2, none⟩ = false := Uf 2); (have auE : World.frozen? _ ⟨xk, ((jX) : Int).toNat * 6 + 3, none⟩ = false := Uf 3); (have auF : World.frozen? _ ⟨xk, ((jX) : Int).toNat * 6 + 4, none⟩ = false := Uf 4); (have auG : World.frozen? _ ⟨xk, ((jX) : Int).toNat * 6 + 5, none⟩ = false := Uf 5); (clear ax1 Ue Uf ax2); (replace p13 := eq_true p13); (replace q13 := eq_true q13)
        (obtain ⟨aPi, aq9, ax3, aq_, ax4⟩ := Kd.uq eF.out z46 ((jX) : Int) (of_decide_eq_true (by first | (with_reducible assumption) | assumption)) (by have h_ : ((jX) : Int) < ((gu.length : Int) : Int) := of_decide_eq_true (by first | (with_reducible assumption) | assumption); first | exact h_ | (have e_ := (Kd.dh eF.out).1; omega) | simpa using h_)); (obtain rfl := l7 ax3)
        (have auH := (Kd.P9 eF.out ((jX) : Int) (of_decide_eq_true (by first | (with_reducible assumption) | assumption)) (by have h_ : ((jX) : Int) < ((gu.length : Int) : Int) := of_decide_eq_true (by first | (with_reducible assumption) | assumption); first | exact h_ | (have e_ := (Kd.dh eF.out).1; omega) | simpa using h_) (seg := [.int .u8 ((aj gu (qZ)).f0), .int .i64 ((aj gu (qZ)).f1), .string ((aj gu (qZ)).f2), .string ((aj gu (qZ)).f3), .string ((aj gu (qZ)).f4), .int .u64 ((aj gu (qZ)).f5)]) (j := 0) aq9 aq_ (show 6 ≤ 6 from by decide) (x' := (⟨(aj gu (qZ)).f0, (aj gu (qZ)).f1, (aj gu (qZ)).f2, (aj gu (qZ)).f3, (aj gu (qZ)).f4, (aj gu (qZ)).f5⟩ : bC)) (jv _ _ _ (⟨(aj gu (qZ)).f0, (aj gu (qZ)).f1, (aj gu (qZ)).f2, (aj gu (qZ)).f3, (aj gu (qZ)).f4, (aj gu (qZ)).f5⟩ : bC) ) (fun _ hk => hk)).1); (rw [← axU.out] at auH); (have amQ := ah.mk auH); (clear aq9 aq_ ax4 ax3 auH); (have p14 : 0 ≤ ((qZ) : Int) := of_decide_eq_true (by first | (with_reducible assumption) | assumption))
        (have q14 : ((qZ) : Int) < ((gu.length : Int) : Int) := of_decide_eq_true (by first | (with_reducible assumption) | assumption)); (obtain ⟨aKb, ajm, ajn, CJ, CO⟩ := Kd.uq amQ.out z46 ((qZ) : Int) p14 q14); (obtain rfl := l7 ajn); (have Yn : World.cell? _ ⟨xk, ((qZ) : Int).toNat * 6, none⟩ = some (.int .u8 ((aj aaI (qZ)).f0)) := CJ 0 _ rfl); (have Yo : World.cell? _ ⟨xk, ((qZ) : Int).toNat * 6 + 1, none⟩ = some (.int .i64 ((aj aaI (qZ)).f1)) := CJ 1 _ rfl); (have Yp : World.cell? _ ⟨xk, ((qZ) : Int).toNat * 6 + 2, none⟩ = some (.string ((aj aaI (qZ)).f2)) := CJ 2 _ rfl); (have Yq : World.cell? _ ⟨xk, ((qZ) : Int).toNat * 6 + 3, none⟩ = some (.string ((aj aaI (qZ)).f3)) := CJ 3 _ rfl); (have Yr : World.cell? _ ⟨xk, ((qZ) : Int).toNat * 6 + 4, none⟩ = some (.string ((aj aaI (qZ)).f4)) := CJ 4 _ rfl); (have Yt : World.cell? _ ⟨xk, ((qZ) : Int).toNat * 6 + 5, none⟩ = some (.int .u64 ((aj aaI (qZ)).f5)) := CJ 5 _ rfl); (have Yu : World.frozen? _ ⟨xk, ((qZ) : Int).toNat * 6, none⟩ = false := CO 0)
        (have Yv : World.frozen? _ ⟨xk, ((qZ) : Int).toNat * 6 + 1, none⟩ = false := CO 1); (have Yw : World.frozen? _ ⟨xk, ((qZ) : Int).toNat * 6 + 2, none⟩ = false := CO 2); (have Yx : World.frozen? _ ⟨xk, ((qZ) : Int).toNat * 6 + 3, none⟩ = false := CO 3); (have Yy : World.frozen? _ ⟨xk, ((qZ) : Int).toNat * 6 + 4, none⟩ = false := CO 4); (have Yz : World.frozen? _ ⟨xk, ((qZ) : Int).toNat * 6 + 5, none⟩ = false := CO 5); (clear ajm CJ CO ajn); (replace p14 := eq_true p14); (replace q14 := eq_true q14); (obtain ⟨aPj, ara, ax5, arb, ax6⟩ := Kd.uq amQ.out z46 ((qZ) : Int) (of_decide_eq_true (by first | (with_reducible assumption) | assumption)) (by have h_ : ((qZ) : Int) < ((gu.length : Int) : Int) := of_decide_eq_true (by first | (with_reducible assumption) | assumption); first | exact h_ | (have e_ := (Kd.dh eF.out).1; omega) | simpa using h_)); (obtain rfl := l7 ax5)
        (have auI := (Kd.P9 amQ.out ((qZ) : Int) (of_decide_eq_true (by first | (with_reducible assumption) | assumption)) (by have h_ : ((qZ) : Int) < ((gu.length : Int) : Int) := of_decide_eq_true (by first | (with_reducible assumption) | assumption); first | exact h_ | (have e_ := (Kd.dh eF.out).1; omega) | simpa using h_) (seg := [.int .u8 ((aj gu (jX)).f0), .int .i64 ((aj gu (jX)).f1), .string ((aj gu (jX)).f2), .string ((aj gu (jX)).f3), .string ((aj gu (jX)).f4), .int .u64 ((aj gu (jX)).f5)]) (j := 0) ara arb (show 6 ≤ 6 from by decide) (x' := (⟨(aj gu (jX)).f0, (aj gu (jX)).f1, (aj gu (jX)).f2, (aj gu (jX)).f3, (aj gu (jX)).f4, (aj gu (jX)).f5⟩ : bC)) (jv _ _ _ (⟨(aj gu (jX)).f0, (aj gu (jX)).f1, (aj gu (jX)).f2, (aj gu (jX)).f3, (aj gu (jX)).f4, (aj gu (jX)).f5⟩ : bC) ) (fun _ hk => hk)).1); (rw [← axW.out] at auI); (have ax7 := ah.mk auI); (clear ara arb ax6 ax5 auI)
        refine jP (n := 24) (S := fun w' => F46 xk ((((qZ)).toNat * 6)) (aj gu (qZ)) w' ∧ F46 xk ((((jX)).toNat * 6)) (aj gu (jX)) w') (ds := [21, 23]) #[false, false, false, false, false, false, false, false, false, false, false, false, false, false, false, false, false, false, false, false, false, false, false, false] (by kernel_rfl) rfl rfl ⟨⟨YA, YB, YC, YD, YE, YF⟩, ⟨YG, YH, YI, YJ, YK, YL⟩⟩ (fun hHeld => ?_); refine gU dS.amO dS.aeZ (fun bI mF => ?_)
        (generalize wr.drew = w15 at eF HK HB aKg amQ ax7 auB auC auD auE auF auG Yu Yv Yw Yx Yy Yz auu auv auw auy auz auA Yn Yo Yp Yq Yr Yt YA YB YC YD YE YF YG YH YI YJ YK YL hHeld ⊢); (refine gI 0 16 bI.out ?_)
        refine gI 1 17 bI.out ?_
        refine gI 2 18 bI.out ?_
        refine gI 3 19 bI.out ?_
        refine gI 4 20 bI.out ?_
        refine gI 5 21 bI.out ?_
        refine gI 6 22 bI.out ?_
        refine gI 7 23 bI.out ?_
        refine gI 8 24 bI.out ?_
        refine gI 9 25 bI.out ?_
        refine gI 10 26 bI.out ?_
        refine gI 11 27 bI.out ?_
        refine gI 12 28 bI.out ?_
        refine gI 14 30 bI.out ?_
        refine gI 15 31 bI.out ?_
        refine gI 16 32 bI.out ?_
        refine gI 17 33 bI.out ?_
        refine gI 18 34 bI.out ?_
        refine wZ 13 29 bI.out mF.out rfl hHeld (aq8) ?_
        refine wZ 19 35 bI.out mF.out rfl hHeld (aq8) ?_
        refine gI 20 36 bI.out ?_
        (refine P_ (i := 21) (N := none) #[true, true, true, true, true, true, true, true, true, true, true, true, true, true, true, true, true, true, true, true, true, true, false, false] rfl rfl (gG bI.out (by kernel_rfl)) (by decide) (fun K hK => ?_)); (refine t_ (w1 := ?_) (by rfl) rfl ?_ ?_)
        rotate_left
        ·go_simp
         rfl
        (refine hK.out _ _ ?_); (clear hK K); (refine gI 22 37 bI.out ?_)
        (refine P_ (i := 23) (N := none) #[true, true, true, true, true, true, true, true, true, true, true, true, true, true, true, true, true, true, true, true, true, true, true, true] rfl rfl (gG bI.out (by kernel_rfl)) (by decide) (fun K hK => ?_)); (refine t_ (w1 := ?_) (by rfl) rfl ?_ ?_)
        rotate_left
        ·simp [go_sem, World.setCells, show k46.sz = 6 from rfl, Nat.add_assoc] at Yn Yo Yp Yq Yr Yt Yu Yv Yw Yx Yy Yz
         (go_simp); (rfl)
        (refine hK.out _ _ ?_); (clear hK K); (refine lU (jh bI.out (by kernel_rfl)) ?_); (try go_wp2); (go_roundg k1)
        case measure => have := oh.out; omega
        case rel => exact ⟨(axV), (wrap64 (cO + 1)), (by first | rfl | (simp; done) | (simp [*]; done)), H', ⟨by have := oh.out; omega⟩, ⟨by (with_reducible repeat (first | apply Kd.dZ | apply Kd.d_ | apply Kd.eU)); exact ax7.out⟩, ⟨by repeat (first | (with_reducible first | exact HK.out | apply Kept.alloc | apply Kept.drewN | apply Kept.drew | refine Kept.setCell ?_ zy.out _ | refine Kept.setCell ?_ zy.out _ | refine Kept.setCell ?_ zy.out _ | refine Kept.setCell ?_ zy.out _ | refine Kept.setCell ?_ zy.out _ | refine Kept.setCell ?_ zy.out _ | refine Kept.setCell ?_ zy.out _ | refine Kept.setCell ?_ zy.out _ | refine Kept.setCell ?_ zy.out _ | refine Kept.setCell ?_ zy.out _ | refine Kept.setCell ?_ zy.out _ | refine Kept.setCell ?_ zy.out _) | exact HK.out)⟩, ⟨by (with_reducible repeat first | exact HB.out | apply mG | apply ni | apply ny | refine jW ?_ QU.out | refine jW ?_ QU.out | refine jW ?_ QU.out | refine jW ?_ QU.out | refine jW ?_ QU.out | refine jW ?_ QU.out | refine jW ?_ QU.out | refine jW ?_ QU.out | refine jW ?_ QU.out | refine jW ?_ QU.out | refine jW ?_ QU.out | refine jW ?_ QU.out) <;> exact HB.out⟩⟩
       ·rw [if_neg c12] at H
        exact absurd H (by simp)
      ·rw [if_neg c11] at H
       exact absurd H (by simp)
     ·rw [if_neg c9] at H
      exact absurd H (by simp)
    ·rw [if_neg c8] at H
     exact absurd H (by simp)
   ·rw [if_neg c6] at H
    (have uw : decide (cO < a3) = false := decide_eq_false c6); (clear c6); (obtain rfl := Option.some.inj H); (go_wp2); (first | go_end0 | ((try simp only [Exit.inBlock, Exit.then]); refine bodyPost_ret (results_none rfl _ _ _) rfl ?_)); (exact ⟨by first | rfl | (simp [*, bg, bn] <;> rfl), by (with_reducible repeat (first | apply Kd.dZ | apply Kd.d_ | apply Kd.eU)); exact eF.out, aq7, aq6⟩)

end Go.Proofs.Ytnklnjghecmihaa.L2
