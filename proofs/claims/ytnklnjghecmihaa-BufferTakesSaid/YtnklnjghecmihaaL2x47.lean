/- tight -/ -- written by wip/myprint.py
import Derived.Test.YtnklnjghecmihaaL2x0
import Derived.Test.YtnklnjghecmihaaL2x46
namespace Go.Proofs.Ytnklnjghecmihaa.L2
open Go.RowKit Go.Proofs.YtnklnjghecmihaaW aQ dV fP Mine
attribute [local go_sem] iM iO jk jl gW gX iP iQ iK iL dP dR dQ
set_option linter.unusedVariables false
set_option linter.unusedSimpArgs false
theorem Jb {P : Prop} (h : P := by (with_reducible repeat first | exact HB.out | apply mG | apply ni | apply ny) <;> exact HB.out) : P := h
theorem asN {P : Prop} (h : P := by repeat (first | exact (Kd.dh mg.out).2.2 | (with_reducible refine Kd.nD ?_ _) | (with_reducible refine Kd.nG ?_ _) | (with_reducible refine Kd.qp ?_))) : P := h
theorem WR {P : Prop} (h : P := by (with_reducible repeat (first | apply Kd.dZ | apply Kd.d_ | apply Kd.eU)); exact mg.out) : P := h

/-! ### catchmentref12_Add: function 29 -/
mutual
def bH.l0 : Nat → List (bC) → List (bC) → List (bC) → Int → Option ((List (bC)))
 | 0, _, _, _, _ => none
 | k + 1, x0, x1, x5, x6 => if x6 < (x0.length : Int) then (if 0 ≤ x6 then ((aY.f k x5 ((aj x0 x6).f0) ((aj x0 x6).f1) ((aj x0 x6).f2) ((aj x0 x6).f3) ((aj x0 x6).f4) ((aj x0 x6).f5)).bind fun aln => (bH.l0 k x0 x1 aln (wrap64 (x6 + 1)))) else (none)) else (bH.l1 k x1 x5 0)
def bH.l1 : Nat → List (bC) → List (bC) → Int → Option ((List (bC)))
 | 0, _, _, _ => none
 | k + 1, x1, x5, x7 => if x7 < (x1.length : Int) then (if 0 ≤ x7 then ((aY.f k x5 ((aj x1 x7).f0) ((aj x1 x7).f1) ((aj x1 x7).f2) ((aj x1 x7).f3) ((aj x1 x7).f4) ((aj x1 x7).f5)).bind fun alo => (bH.l1 k x1 alo (wrap64 (x7 + 1)))) else (none)) else (some x5)
end
def bH.f (k : Nat) (l0 : List (bC)) (l1 : List (bC)) : Option ((List (bC))) := bH.l0 k l0 l1 (([] : List (bC))) 0
theorem bH.gB : ∀ k, (∀ y0 y1 y2 y3, dO (bH.l0 k y0 y1 y2 y3) (bH.l0 (k + 1) y0 y1 y2 y3)) ∧ (∀ y0 y1 y2, dO (bH.l1 k y0 y1 y2) (bH.l1 (k + 1) y0 y1 y2))
 | 0 => ⟨fun _ _ _ _ r h => by simp [bH.l0] at h, fun _ _ _ r h => by simp [bH.l1] at h⟩
 | k + 1 => by
  obtain ⟨lS, ih1⟩ := bH.gB k
  refine ⟨?_, ?_⟩
  ·intro y0 y1 y2 y3
   unfold bH.l0
   repeat' (with_reducible first | exact lS _ _ _ _ | exact ih1 _ _ _ | exact aY.mono _ _ _ _ _ _ _ _ | exact dO.refl _ | exact dO.none _ | refine dO.ite ?_ ?_ | refine dO.bind ?_ (fun _ => ?_))
  ·intro y0 y1 y2
   unfold bH.l1
   repeat' (with_reducible first | exact lS _ _ _ _ | exact ih1 _ _ _ | exact aY.mono _ _ _ _ _ _ _ _ | exact dO.refl _ | exact dO.none _ | refine dO.ite ?_ ?_ | refine dO.bind ?_ (fun _ => ?_))
theorem bH.mono : ∀ a0 a1 k, dO (bH.f k a0 a1) (bH.f (k + 1) a0 a1) := by
 (intro a0 a1 k); (obtain ⟨lS, ih1⟩ := bH.gB k); (unfold bH.f)
 repeat' (with_reducible first | exact lS _ _ _ _ | exact ih1 _ _ _ | exact aY.mono _ _ _ _ _ _ _ _ | exact dO.refl _ | exact dO.none _ | refine dO.ite ?_ ?_ | refine dO.bind ?_ (fun _ => ?_))
set_option maxHeartbeats 8000000 in
set_option maxRecDepth 100000 in
theorem bH.calls (k : Nat) (A0 : Option Addr) (c0 : Nat) (l0 : List (bC)) (A1 : Option Addr) (c1 : Nat) (l1 : List (bC)) (r : List (bC)) (w : World) (hr0 : Kd.C k46 w A0 l0.length l0) (hc0 : l0.length ≤ c0) (hr1 : Kd.C k46 w A1 l1.length l1) (hc1 : l1.length ≤ c1) (h : bH.f k l0 l1 = some r) :
  Calls Try.prog 29 #[.slice A0 l0.length c0, .slice A1 l1.length c1] w fun e w' => ∃ zq : Value, e = .returned (zq) ∧ Kd.R k46 46 w' w.heap.size (fun _ => True) zq r ∧ Below w.heap.size w w' := by
 (have vU := Try.underlying46); (have HR0 := ah.mk hr0); (have QK := ah.mk hc0); (clear hr0 hc0); (have HR1 := ah.mk hr1); (have HC1 := ah.mk hc1); (clear hr1 hc1); (have HB := ah.mk (Below.refl w.heap.size w)); (have H : (bH.l0 k l0 l1 (([] : List (bC))) 0) = some r := h); (clear h); (obtain ⟨aB6, abL⟩ : ∃ y_ : List (bC), y_ = (([] : List (bC))) := ⟨_, rfl⟩); (replace H : (bH.l0 k l0 l1 aB6 0) = some r := by first | (rw [abL]; with_reducible exact H) | (have kJ := (Option.bind_some _ _).symm.trans H; rw [abL]; with_reducible exact kJ) | (have kJ := (Option.bind_some _ _).symm.trans H; with_reducible exact kJ) | with_reducible exact H | (rw [abL]; exact H) | exact H); (have asO := ah.mk abL); (clear abL); (have H' := ah.mk H); (clear H); (go_enter Try.func29, Try.ntmps29)
 go_wp2_with (first | ((with_reducible refine bM (N := 8) rfl ?_); refine Kd.tZ k46 _ 46 ?hg (N := 8) ?hd (xs := ([] : List (bC))) (inner := []) (ok := fun _ => True) (yP := fun _ => True) ?hr ?hp (fun _ hk => hk) trivial (Below.refl _ _) (Nat.le_refl _) (by simp) ?_; (case hd => rfl); (case hg => rfl); (case hr => first | (go_simp; done) | (go_simp; rfl)); (case hp => exact (iU.none _ _)); intro aQG w3 ho4 hb tC kT; clear tC kT; (first | rw [← asO.out] at ho4 | (simp only [Int.reduceToNat] at ho4; rw [← asO.out] at ho4)); have aB7 := ah.mk (Kd.gy ho4 (cZ (Jb))); replace HB := ah.mk (ak (Jb) hb); clear hb ho4))
 (try simp only [Act.put, List.setIfInBounds_toArray, List.set_cons_zero, List.set_cons_succ])
 go_loopg [5, 6] k (fun kq v5 v6 w' => ∃ (dW : List (bC)) (dn : Int), v6 = .int .i64 dn ∧ ah (bH.l0 kq l0 l1 dW dn = some r) ∧ ah (kq ≤ k) ∧ ah (Kd.R k46 46 w' w.heap.size (fun _ => True) v5 dW) ∧ ah (Below w.heap.size w w'))
 case atStart => exact ⟨(aB6), (0), (by first | rfl | (simp; done) | (simp [*]; done)), H', ⟨Nat.le_refl _⟩, ⟨by (with_reducible repeat (first | apply Kd.dZ | apply Kd.d_ | apply Kd.eU)); exact aB7.out⟩, ⟨Jb⟩⟩
 case round =>
  (clear H'); (try clear c1); (try clear c2); (try clear p2); (obtain ⟨dW, dn, rfl, HA, oh, mg, HB⟩ := hrel)
  cases gk with
  | zero => exact absurd HA.out (by simp [bH.l0])
  | succ k1 =>
   (have H := HA.out); (clear HA); (simp only [bH.l0] at H); (by_cases c5 : dn < (l0.length : Int))
   ·rw [if_pos c5] at H
    (have zU : decide (dn < (l0.length : Int)) = true := decide_eq_true c5); (clear c5); (by_cases c6 : 0 ≤ dn)
    ·rw [if_pos c6] at H
     (have uw : decide (0 ≤ dn) = true := decide_eq_true c6); (clear c6); (replace H := Option.bind_eq_some_iff.mp H); (obtain ⟨aln, VX, H⟩ := H); (replace H : (bH.l0 k1 l0 l1 aln (wrap64 (dn + 1))) = some r := H); (have A7 := ah.mk VX); (clear VX); (have H' := ah.mk H); (clear H); (have apV : 0 ≤ (dn : Int) := of_decide_eq_true (by first | (with_reducible assumption) | assumption)); (have apW : dn < (l0.length : Int) := of_decide_eq_true (by first | (with_reducible assumption) | assumption)); (obtain ⟨aOK, aLq, ZH, ZI, ZJ, ZK, ZL, ZM⟩ := gJ HR0.out dn apV apW); (cases aLq); (replace ZH := gq HB ZH); (replace ZI := gq HB ZI); (replace ZJ := gq HB ZJ); (replace ZK := gq HB ZK); (replace ZL := gq HB ZL); (replace ZM := gq HB ZM)
     (replace apV := eq_true apV); (replace apW := eq_true apW); (obtain ⟨Ao8, co8, eo8⟩ := Kd.fJ mg.out); (subst eo8)
     go_wp2_with (first | ((with_reducible refine aH (f := 92) rfl ?_); refine dD (some 20) rfl rfl Try.func92 (by kernel_rfl) rfl #[.slice Ao8 dW.length co8, .agg #[.int .u8 ((aj l0 dn).f0), .int .i64 ((aj l0 dn).f1), .string ((aj l0 dn).f2), .string ((aj l0 dn).f3), .string ((aj l0 dn).f4), .int .u64 ((aj l0 dn).f5)]] rfl (by (try simp only [List.map_toArray, List.map_cons, List.map_nil]); first | done | rfl) ?_; (with_reducible refine (aY.calls k1 _ _ dW ((aj l0 dn).f0) ((aj l0 dn).f1) ((aj l0 dn).f2) ((aj l0 dn).f3) ((aj l0 dn).f4) ((aj l0 dn).f5) aln _ ?fM ?fO A7.out).mono ?_); (case fM => exact asN); (case fO => exact (Kd.dh mg.out).2.1); rintro e w9 ⟨aQH, rfl, ho0, hb⟩; refine ⟨_, rfl, ?_⟩; have aB8 := ah.mk (Kd.gy (Kd.fQ ho0 (Kd.jC (WR))) (cZ (Jb))); replace mg := ah.mk (Kd.iD (WR) (Kd.fH ho0) hb); replace HB := ah.mk (ak (Jb) hb); (try clear hb); (try clear hb2); (try clear hk); (try clear hi); (try clear ho0)))
     go_roundg k1
     case measure => have := oh.out; omega
     case rel => exact ⟨(aln), (wrap64 (dn + 1)), (by first | rfl | (simp; done) | (simp [*]; done)), H', ⟨by have := oh.out; omega⟩, ⟨by (with_reducible repeat (first | apply Kd.dZ | apply Kd.d_ | apply Kd.eU)); exact Kd.dU aB8.out (fun _ hk => trivial)⟩, ⟨Jb⟩⟩
    ·rw [if_neg c6] at H
     exact absurd H (by simp)
   ·rw [if_neg c5] at H
    (have zU : decide (dn < (l0.length : Int)) = false := decide_eq_false c5); (clear c5); (have H' := ah.mk H); (clear H); (go_wp2); (go_loopg [5, 7] k1 (fun kq v5 v7 w' => ∃ (alp : List (bC)) (zH : Int), v7 = .int .i64 zH ∧ ah (bH.l1 kq l1 alp zH = some r) ∧ ah (kq ≤ k1) ∧ ah (Kd.R k46 46 w' w.heap.size (fun _ => True) v5 alp) ∧ ah (Below w.heap.size w w')))
    case atStart => exact ⟨(dW), (0), (by first | rfl | (simp; done) | (simp [*]; done)), H', ⟨Nat.le_refl _⟩, ⟨WR⟩, ⟨Jb⟩⟩
    case round =>
     (clear H'); (try clear c1); (try clear c2); (try clear p2); (try clear p3); (try clear q3); (try clear hx3); (try clear c5); (try clear zU); (try clear c6); (try clear uw); (try clear p6); (try clear c9); (try clear ZH); (try clear ZI); (try clear ZJ); (try clear ZK); (try clear ZL); (try clear ZM); (try clear p2); (try clear apV); (try clear apW); (obtain ⟨alp, zH, rfl, HA, Ic, mg, HB⟩ := hrel)
     cases gk with
     | zero => exact absurd HA.out (by simp [bH.l1])
     | succ k2 =>
      (have H := HA.out); (clear HA); (simp only [bH.l1] at H); (by_cases c10 : zH < (l1.length : Int))
      ·rw [if_pos c10] at H
       (have vV : decide (zH < (l1.length : Int)) = true := decide_eq_true c10); (clear c10); (by_cases c11 : 0 ≤ zH)
       ·rw [if_pos c11] at H
        (have II : decide (0 ≤ zH) = true := decide_eq_true c11); (clear c11); (replace H := Option.bind_eq_some_iff.mp H); (obtain ⟨alo, NZ, H⟩ := H); (replace H : (bH.l1 k2 l1 alo (wrap64 (zH + 1))) = some r := H); (have A12 := ah.mk NZ); (clear NZ); (have H' := ah.mk H); (clear H); (have avS : 0 ≤ (zH : Int) := of_decide_eq_true (by first | (with_reducible assumption) | assumption)); (have avT : zH < (l1.length : Int) := of_decide_eq_true (by first | (with_reducible assumption) | assumption)); (obtain ⟨aOL, aLr, agC, agD, agE, agF, agG, agH⟩ := gJ HR1.out zH avS avT); (cases aLr); (replace agC := gq HB agC); (replace agD := gq HB agD); (replace agE := gq HB agE); (replace agF := gq HB agF); (replace agG := gq HB agG); (replace agH := gq HB agH)
        (replace avS := eq_true avS); (replace avT := eq_true avT); (obtain ⟨avU, amP, acM⟩ := Kd.fJ mg.out); (subst acM)
        go_wp2_with (first | ((with_reducible refine aH (f := 92) rfl ?_); refine dD (some 32) rfl rfl Try.func92 (by kernel_rfl) rfl #[.slice avU alp.length amP, .agg #[.int .u8 ((aj l1 zH).f0), .int .i64 ((aj l1 zH).f1), .string ((aj l1 zH).f2), .string ((aj l1 zH).f3), .string ((aj l1 zH).f4), .int .u64 ((aj l1 zH).f5)]] rfl (by (try simp only [List.map_toArray, List.map_cons, List.map_nil]); first | done | rfl) ?_; (with_reducible refine (aY.calls k2 _ _ alp ((aj l1 zH).f0) ((aj l1 zH).f1) ((aj l1 zH).f2) ((aj l1 zH).f3) ((aj l1 zH).f4) ((aj l1 zH).f5) alo _ ?fM ?fO A12.out).mono ?_); (case fM => exact asN); (case fO => exact (Kd.dh mg.out).2.1); rintro e TY ⟨aQI, rfl, ho0, hb⟩; refine ⟨_, rfl, ?_⟩; have aB9 := ah.mk (Kd.gy (Kd.fQ ho0 (Kd.jC (WR))) (cZ (Jb))); replace mg := ah.mk (Kd.iD (WR) (Kd.fH ho0) hb); replace HB := ah.mk (ak (Jb) hb); (try clear hb); (try clear hb2); (try clear hk); (try clear hi); (try clear ho0)))
        go_roundg k2
        case measure => have := oh.out; have := Ic.out; omega
        case rel => exact ⟨(alo), (wrap64 (zH + 1)), (by first | rfl | (simp; done) | (simp [*]; done)), H', ⟨by have := oh.out; have := Ic.out; omega⟩, ⟨by (with_reducible repeat (first | apply Kd.dZ | apply Kd.d_ | apply Kd.eU)); exact Kd.dU aB9.out (fun _ hk => trivial)⟩, ⟨Jb⟩⟩
       ·rw [if_neg c11] at H
        exact absurd H (by simp)
      ·rw [if_neg c10] at H
       (have vV : decide (zH < (l1.length : Int)) = false := decide_eq_false c10); (clear c10); (obtain rfl := Option.some.inj H); (go_wp2); (go_ret); (exact ⟨_, by first | rfl | (simp [*, bg, bn] <;> rfl), WR, Jb⟩)

end Go.Proofs.Ytnklnjghecmihaa.L2
