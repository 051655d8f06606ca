/- tight -/ -- written by wip/myprint.py
import Derived.Test.YtnklnjghecmihaaL2x0
import Derived.Test.YtnklnjghecmihaaL2x47
import Derived.Test.YtnklnjghecmihaaL2x53
namespace Go.Proofs.Ytnklnjghecmihaa.L2
open Go.RowKit Go.Proofs.YtnklnjghecmihaaW aQ dV fP Mine
attribute [local go_sem] iM iO jk jl gW gX iP iQ iK iL dP dR dQ
set_option linter.unusedVariables false
set_option linter.unusedSimpArgs false
theorem asP {P : Prop} (h : P := by (with_reducible repeat first | exact HB.out | apply mG | apply ni | apply ny) <;> exact HB.out) : P := h
theorem OQ {P : Prop} (h : P := by (with_reducible repeat first | exact HB.out | apply mG | apply ni | apply ny | refine jW ?_ aCa.out) <;> exact HB.out) : P := h
theorem abM {P : Prop} (h : P := by (with_reducible repeat first | apply iR | apply iT | apply iJ); exact H9.out) : P := h
theorem asQ {P : Prop} (h : P := by rintro w' ⟨s0, s1, ⟨s2, s3, s4, s5, s6, s7⟩⟩; go_simp; with_reducible rfl) : P := h
theorem abN {P : Prop} (h : P := by (with_reducible repeat (first | apply Kd.dZ | apply Kd.d_ | apply Kd.eU)); exact mg.out) : P := h
theorem asR {P : Prop} (h : P := by exact ⟨(b_ H9 0), (b_ H9 1), (EC HB ⟨agI, agJ, agK, agL, agM, agN⟩)⟩) : P := h
theorem asT {P : Prop} (h : P := by (with_reducible repeat (first | apply Kd.dZ | apply Kd.d_ | apply Kd.eU)); exact abO.out) : P := h

/-! ### catchmentref12_Rest: function 34 -/
def aT.l0 : Nat → List (bC) → List (bC) → Int → ByteArray → ByteArray → Option ((List (bC)))
 | 0, _, _, _, _, _ => none
 | k + 1, x0, x5, x6, agO, agP => if x6 < (x0.length : Int) then (if 0 ≤ x6 then ((aU.f k ((aj x0 x6).f0) ((aj x0 x6).f1) ((aj x0 x6).f2) ((aj x0 x6).f3) ((aj x0 x6).f4) ((aj x0 x6).f5) agO agP).bind fun ah8 => ((bH.f k x5 ah8).bind fun ado => (aT.l0 k x0 ado (wrap64 (x6 + 1)) agO agP))) else (none)) else (some x5)
def aT.f (k : Nat) (l0 : List (bC)) (bf : ByteArray) (aZ : ByteArray) : Option ((List (bC))) := aT.l0 k l0 (([] : List (bC))) 0 bf aZ
theorem aT.gB : ∀ k, (∀ y0 y1 y2 y3 y4, dO (aT.l0 k y0 y1 y2 y3 y4) (aT.l0 (k + 1) y0 y1 y2 y3 y4))
 | 0 => fun _ _ _ _ _ r h => by simp [aT.l0] at h
 | k + 1 => by
  have lS := aT.gB k
  ·intro y0 y1 y2 y3 y4
   unfold aT.l0
   repeat' (with_reducible first | exact lS _ _ _ _ _ | exact aU.mono _ _ _ _ _ _ _ _ _ | exact bH.mono _ _ _ | exact dO.refl _ | exact dO.none _ | refine dO.ite ?_ ?_ | refine dO.bind ?_ (fun _ => ?_))
theorem aT.mono : ∀ a0 a1 a2 k, dO (aT.f k a0 a1 a2) (aT.f (k + 1) a0 a1 a2) := by
 (intro a0 a1 a2 k); (have lS := aT.gB k); (unfold aT.f)
 repeat' (with_reducible first | exact lS _ _ _ _ _ | exact aU.mono _ _ _ _ _ _ _ _ _ | exact bH.mono _ _ _ | exact dO.refl _ | exact dO.none _ | refine dO.ite ?_ ?_ | refine dO.bind ?_ (fun _ => ?_))
def aT.T5 : Bool × List (List Nat × List Nat) := (true, [([], []), ([], []), ([], []), ([1, 2], [1, 2]), ([3], [3]), ([], []), ([4, 5], [4, 5]), ([0, 6, 6], [0, 6]), ([7, 7, 0, 1, 2, 3, 4, 5, 6, 7], [0, 7])])
def aT.B5 : List Nat := [0, 0, 0, 6, 14, 0, 62, 127, 255]
theorem aT.acP : nX .any (opsOf Try.f34 5) = aT.T5 := by kernel_rfl
theorem aT.Uh : kH aT.T5.2 aT.B5 = true := by kernel_rfl
set_option maxHeartbeats 8000000 in
set_option maxRecDepth 100000 in
theorem aT.calls (k : Nat) (A0 : Option Addr) (c0 : Nat) (l0 : List (bC)) (bf : ByteArray) (aZ : ByteArray) (r : List (bC)) (w : World) (hr0 : Kd.C k46 w A0 l0.length l0) (hc0 : l0.length ≤ c0) (h : aT.f k l0 bf aZ = some r) :
  Calls Try.prog 34 #[.slice A0 l0.length c0, .agg #[.string bf, .string aZ]] w fun e w' => ∃ zq : Value, e = .returned (zq) ∧ Kd.R k46 46 w' w.heap.size (fun _ => True) zq r ∧ Below w.heap.size w w' := by
 (have H_ := Try.underlying48); (have vU := Try.underlying46); (have HR0 := ah.mk hr0); (have QK := ah.mk hc0); (clear hr0 hc0); (have HB := ah.mk (Below.refl w.heap.size w)); (have H : (aT.l0 k l0 (([] : List (bC))) 0 bf aZ) = some r := h); (clear h); (obtain ⟨aCb, abP⟩ : ∃ y_ : List (bC), y_ = (([] : List (bC))) := ⟨_, rfl⟩); (replace H : (aT.l0 k l0 aCb 0 bf aZ) = some r := by first | (rw [abP]; with_reducible exact H) | (have kJ := (Option.bind_some _ _).symm.trans H; rw [abP]; with_reducible exact kJ) | (have kJ := (Option.bind_some _ _).symm.trans H; with_reducible exact kJ) | with_reducible exact H | (rw [abP]; exact H) | exact H); (have asU := ah.mk abP); (clear abP); (have H' := ah.mk H); (clear H); (go_enter Try.func34, Try.ntmps34)
 go_wp2_with (first | ((with_reducible refine bM (N := 3) rfl ?_); refine bU ?hg (N := 3) ?hd (cs := #[.string bf, .string aZ]) (t := 48) ?hr ?_; (case hd => rfl); (case hg => rfl); (case hr => first | (go_simp; done) | (go_simp; rfl)); intro als hg w3 hbox hb; have H9 := ah.mk (hbox); have aCc := ah.mk (hs_ hg (asP)); replace HB := ah.mk (ak (asP) hb); have aCa := aCc; clear hb hbox hg) | ((with_reducible refine bM (N := 7) rfl ?_); refine Kd.tZ k46 _ 46 ?hg (N := 7) ?hd (xs := ([] : List (bC))) (inner := []) (ok := fun _ => True) (yP := fun _ => True) ?hr ?hp (fun _ hk => hk) trivial (Below.refl _ _) (Nat.le_refl _) (by simp) ?_; (case hd => rfl); (case hg => rfl); (case hr => first | (go_simp; done) | (go_simp; rfl)); (case hp => exact (iU.none _ _)); intro aQK w4 ho5 hb tC kT; clear tC kT; (first | rw [← asU.out] at ho5 | (simp only [Int.reduceToNat] at ho5; rw [← asU.out] at ho5)); have aCd := ah.mk (Kd.gy ho5 (cZ (OQ))); replace H9 := ah.mk (aA (abM) hb); replace HB := ah.mk (ak (OQ) hb); clear hb ho5))
 (try simp only [Act.put, List.setIfInBounds_toArray, List.set_cons_zero, List.set_cons_succ])
 go_loopg [5, 6] k (fun kq v5 v6 w' => ∃ (dW : List (bC)) (dn : Int), v6 = .int .i64 dn ∧ ah (aT.l0 kq l0 dW dn bf aZ = some r) ∧ ah (kq ≤ k) ∧ ah (Kd.R k46 46 w' w.heap.size (fun _ => True) v5 dW) ∧ ah (w'.heap[als]? = some (.cells #[.string bf, .string aZ] 48 (0, 0))) ∧ ah (Below w.heap.size w w'))
 case atStart => exact ⟨(aCb), (0), (by first | rfl | (simp; done) | (simp [*]; done)), H', ⟨Nat.le_refl _⟩, ⟨by (with_reducible repeat (first | apply Kd.dZ | apply Kd.d_ | apply Kd.eU)); exact aCd.out⟩, ⟨abM⟩, ⟨OQ⟩⟩
 case round =>
  (clear H'); (try clear p2); (try clear c3); (obtain ⟨dW, dn, rfl, HA, oh, mg, H9, HB⟩ := hrel)
  cases gk with
  | zero => exact absurd HA.out (by simp [aT.l0])
  | succ k1 =>
   (have H := HA.out); (clear HA); (simp only [aT.l0] at H); (by_cases c6 : dn < (l0.length : Int))
   ·rw [if_pos c6] at H
    (have uw : decide (dn < (l0.length : Int)) = true := decide_eq_true c6); (clear c6); (by_cases c7 : 0 ≤ dn)
    ·rw [if_pos c7] at H
     (have FP : decide (0 ≤ dn) = true := decide_eq_true c7); (clear c7); (replace H := Option.bind_eq_some_iff.mp H); (obtain ⟨ah8, Wp, H⟩ := H); (replace H : ((bH.f k1 dW ah8).bind fun ado => (aT.l0 k1 l0 ado (wrap64 (dn + 1)) bf aZ)) = some r := H); (have A8 := ah.mk Wp); (clear Wp); (replace H := Option.bind_eq_some_iff.mp H); (obtain ⟨ado, TV, H⟩ := H); (replace H : (aT.l0 k1 l0 ado (wrap64 (dn + 1)) bf aZ) = some r := H); (have A9 := ah.mk TV); (clear TV); (have H' := ah.mk H); (clear H); (try go_wp2); (replace mg := ah.mk (Kd.eU mg.out)); (replace H9 := ah.mk (iw H9.out)); (replace HB := ah.mk (fB HB.out)); (have awd : 0 ≤ (dn : Int) := of_decide_eq_true (by first | (with_reducible assumption) | assumption)); (have awe : dn < (l0.length : Int) := of_decide_eq_true (by first | (with_reducible assumption) | assumption)); (obtain ⟨aCe, aMK, SS, SV, SX, SY, S9, S_⟩ := gJ HR0.out dn awd awe); (have agN := S_)
     (have agM := S9); (have agL := SY); (have agK := SX); (have agJ := SV); (have agI := SS); (cases aMK); (replace SS := gq HB SS); (replace SV := gq HB SV); (replace SX := gq HB SX); (replace SY := gq HB SY); (replace S9 := gq HB S9); (replace S_ := gq HB S_); (replace awd := eq_true awd); (replace awe := eq_true awe)
     refine jP (n := 9) (S := fun w' => w'.cell? ⟨als, 0, none⟩ = some (.string bf) ∧ w'.cell? ⟨als, 1, none⟩ = some (.string aZ) ∧ MF (aCe.add ((dn).toNat * 6)) (aj l0 dn) w') (ds := []) #[false, false, false, false, false, false, false, false, false] (by kernel_rfl) rfl rfl ⟨(b_ H9 0), (b_ H9 1), (EC HB ⟨agI, agJ, agK, agL, agM, agN⟩)⟩ (fun hHeld => ?_); refine gU aT.acP aT.Uh (fun bI mF => ?_)
     (generalize wr.drew = w10 at mg H9 HB SS SV SX SY S9 S_ hHeld ⊢); (refine gI 0 14 bI.out ?_)
     refine gI 1 15 bI.out ?_
     refine gI 2 16 bI.out ?_
     refine gI 3 17 bI.out ?_
     refine wZ 4 18 bI.out mF.out rfl hHeld (asQ) ?_
     refine wZ 5 19 bI.out mF.out rfl hHeld (asQ) ?_
     (refine kN (i := 6) (N := some 20) #[true, true, true, true, true, true, true, false, false] rfl rfl (gG bI.out (by kernel_rfl)) (by decide) (fun K hK => ?_)); (refine kD Try.func96 (by kernel_rfl) rfl #[.agg #[.int .u8 ((aj l0 dn).f0), .int .i64 ((aj l0 dn).f1), .string ((aj l0 dn).f2), .string ((aj l0 dn).f3), .string ((aj l0 dn).f4), .int .u64 ((aj l0 dn).f5)], .agg #[.string bf, .string aZ]] (by rfl) rfl rfl (by (try simp only [List.map_toArray, List.map_cons, List.map_nil]); first | done | rfl) ?_); (with_reducible refine (aU.calls k1 ((aj l0 dn).f0) ((aj l0 dn).f1) ((aj l0 dn).f2) ((aj l0 dn).f3) ((aj l0 dn).f4) ((aj l0 dn).f5) bf aZ ah8 _ A8.out).mono ?_); (rintro e w11 ⟨aQL, rfl, ho0, hb⟩); (refine ⟨_, rfl, ?_⟩); (have abO := ah.mk (Kd.gy (Kd.fQ ho0 (Kd.jC (abN))) (cZ (OQ)))); (replace mg := ah.mk (Kd.iD (abN) (Kd.fH ho0) hb)); (replace H9 := ah.mk (aA (abM) hb)); (replace HB := ah.mk (ak (OQ) hb)); ((try clear hb)); ((try clear hb2)); ((try clear hk)); ((try clear hi)); ((try clear ho0)); (obtain ⟨ajE, ajF, amS⟩ := Kd.fJ mg.out); ((first | subst amS | (injection amS with EJ Pz EK; have PD := EJ.symm; have PE := EK.symm; clear EJ Pz EK; subst PD; subst PE))); (obtain ⟨avU, amP, acM⟩ := Kd.fJ abO.out)
     ((first | subst acM | (injection acM with EJ Pz EK; have PD := EJ.symm; have PE := EK.symm; clear EJ Pz EK; subst PD; subst PE))); (refine hK.out _ _ asR (fun hHeld => ?_)); (clear hK K); (refine fC (a' := ?_) ?_ ?_)
     rotate_left
     ·show Act.put _ (some 20) _ = _
      (simp only [mM, mO, mP, mQ, dM, eu]); (rfl)
     (refine kN (i := 7) (N := some 21) #[true, true, true, true, true, true, true, true, false] rfl rfl (gG bI.out (by kernel_rfl)) (by decide) (fun K hK => ?_)); (refine kD Try.func29 (by kernel_rfl) rfl #[.slice ajE dW.length ajF, .slice avU ah8.length amP] (by rfl) rfl rfl (by (try simp only [List.map_toArray, List.map_cons, List.map_nil]); first | done | rfl) ?_); (with_reducible refine (bH.calls k1 _ _ dW _ _ ah8 ado _ ?fM ?fO ?Vb ?Vd A9.out).mono ?_); ((case fM => repeat (first | exact (Kd.dh mg.out).2.2 | (with_reducible refine Kd.nD ?_ _) | (with_reducible refine Kd.nG ?_ _) | (with_reducible refine Kd.qp ?_)))); ((case fO => exact (Kd.dh mg.out).2.1)); ((case Vb => repeat (first | exact (Kd.dh abO.out).2.2 | (with_reducible refine Kd.nD ?_ _) | (with_reducible refine Kd.nG ?_ _) | (with_reducible refine Kd.qp ?_)))); ((case Vd => exact (Kd.dh abO.out).2.1)); (rintro e TY ⟨aQM, rfl, ho0, hb⟩); (refine ⟨_, rfl, ?_⟩)
     (have aCf := ah.mk (Kd.gy (Kd.fQ (Kd.fQ ho0 (Kd.jC (abN))) (Kd.jC (asT))) (cZ (OQ)))); (replace mg := ah.mk (Kd.iD (abN) (Kd.fH ho0) hb)); (replace abO := ah.mk (Kd.iD (asT) (Kd.fH ho0) hb)); (replace H9 := ah.mk (aA (abM) hb)); (replace HB := ah.mk (ak (OQ) hb)); ((try clear hb)); ((try clear hb2)); ((try clear hk)); ((try clear hi)); ((try clear ho0)); (refine hK.out _ _ asR (fun hHeld => ?_)); (clear hK K); (refine fC (a' := ?_) ?_ ?_)
     rotate_left
     ·show Act.put _ (some 21) _ = _
      (simp only [mM, mO, mP, mQ, dM, eu]); (rfl)
     refine gI 8 5 bI.out ?_
     (refine lU (jh bI.out (by kernel_rfl)) ?_); (try go_wp2); (go_roundg k1)
     case measure => have := oh.out; omega
     case rel => exact ⟨(ado), (wrap64 (dn + 1)), (by first | rfl | (simp; done) | (simp [*]; done)), H', ⟨by have := oh.out; omega⟩, ⟨by (with_reducible repeat (first | apply Kd.dZ | apply Kd.d_ | apply Kd.eU)); exact Kd.dU aCf.out (fun _ hk => trivial)⟩, ⟨abM⟩, ⟨OQ⟩⟩
    ·rw [if_neg c7] at H
     exact absurd H (by simp)
   ·rw [if_neg c6] at H
    (have uw : decide (dn < (l0.length : Int)) = false := decide_eq_false c6); (clear c6); (obtain rfl := Option.some.inj H); (go_wp2); (go_ret); (exact ⟨_, by first | rfl | (simp [*, bg, bn] <;> rfl), abN, OQ⟩)

end Go.Proofs.Ytnklnjghecmihaa.L2
