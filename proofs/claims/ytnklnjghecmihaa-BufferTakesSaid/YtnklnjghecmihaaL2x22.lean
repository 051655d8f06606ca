/- tight -/ -- written by wip/myprint.py
import Derived.Test.YtnklnjghecmihaaL2x0
import Derived.Test.YtnklnjghecmihaaL2x18
import Derived.Test.YtnklnjghecmihaaL2x21
namespace Go.Proofs.Ytnklnjghecmihaa.L2
open Go.RowKit Go.Proofs.YtnklnjghecmihaaW aQ dV fP Mine
attribute [local go_sem] iM iO jk jl gW gX iP iQ iK iL dP dR dQ
set_option linter.unusedVariables false
set_option linter.unusedSimpArgs false
theorem Hu {P : Prop} (h : P := by repeat (first | (with_reducible first | exact HK.out | apply Kept.alloc | apply Kept.drewN | apply Kept.drew) | exact HK.out)) : P := h
theorem Qx {P : Prop} (h : P := by (with_reducible repeat first | exact HB.out | apply mG | apply ni | apply ny) <;> exact HB.out) : P := h
theorem ae9 {P : Prop} (h : P := by repeat (first | (with_reducible first | exact HB.out | apply mG | apply ni | apply ny) | exact HB.out)) : P := h
theorem ae_ {P : Prop} (h : P := by (with_reducible repeat (first | apply Kd.dZ | apply Kd.d_ | apply Kd.eU)); exact eF.out) : P := h
theorem aj3 {P : Prop} (h : P := by have := oh.out; have := Ic.out; have := HK3.out; omega) : P := h
theorem aj6 {P : Prop} (h : P := by (try simp only [UN]); (try simp only [Wn]); (with_reducible repeat (first | apply Kd.dZ | apply Kd.d_ | apply Kd.eU)); exact eF.out) : P := h

/-! ### api_Msg_130: function 130 -/
mutual
def bZ.l0 : Nat → List (bC) → Int → Int → Int → Int → Option ((List (bC)))
 | 0, _, _, _, _, _ => none
 | k + 1, x0, x1, x6, x7, x8 => if x8 ≤ x1 then ((bQ.f k x0 x7 x8).bind fun aj7 => (bZ.l0 k aj7 x1 x6 x8 (wrap64 (x8 + x6)))) else ((bQ.f k x0 x7 x1).bind fun aj8 => (bZ.l1 k aj8 x1 x6))
def bZ.l1 : Nat → List (bC) → Int → Int → Option ((List (bC)))
 | 0, _, _, _ => none
 | k + 1, x0, x1, x6 => if x6 < x1 then (bZ.l2 k x0 x1 x6 0 (wrap64 (2 * x6))) else (some x0)
def bZ.l2 : Nat → List (bC) → Int → Int → Int → Int → Option ((List (bC)))
 | 0, _, _, _, _, _ => none
 | k + 1, x0, x1, x6, x7, x8 => if x8 ≤ x1 then ((ay.f k x0 x7 (wrap64 (x7 + x6)) x8).bind fun aj9 => (bZ.l2 k aj9 x1 x6 x8 (wrap64 (x8 + (wrap64 (2 * x6)))))) else (if (wrap64 (x7 + x6)) < x1 then ((ay.f k x0 x7 (wrap64 (x7 + x6)) x1).bind fun t182 => (bZ.l1 k t182 x1 (wrap64 (x6 * 2)))) else (bZ.l1 k x0 x1 (wrap64 (x6 * 2))))
end
def bZ.f (k : Nat) (l0 : List (bC)) (a1 : Int)  : Option ((List (bC))) := bZ.l0 k l0 a1 20 0 20
theorem bZ.gB : ∀ k, (∀ y0 y1 y2 y3 y4, dO (bZ.l0 k y0 y1 y2 y3 y4) (bZ.l0 (k + 1) y0 y1 y2 y3 y4)) ∧ (∀ y0 y1 y2, dO (bZ.l1 k y0 y1 y2) (bZ.l1 (k + 1) y0 y1 y2)) ∧ (∀ y0 y1 y2 y3 y4, dO (bZ.l2 k y0 y1 y2 y3 y4) (bZ.l2 (k + 1) y0 y1 y2 y3 y4))
 | 0 => ⟨fun _ _ _ _ _ r h => by simp [bZ.l0] at h, fun _ _ _ r h => by simp [bZ.l1] at h, fun _ _ _ _ _ r h => by simp [bZ.l2] at h⟩
 | k + 1 => by
  obtain ⟨lS, ih1, ih2⟩ := bZ.gB k
  refine ⟨?_, ?_, ?_⟩
  ·intro y0 y1 y2 y3 y4
   unfold bZ.l0
   repeat' (with_reducible first | exact lS _ _ _ _ _ | exact ih1 _ _ _ | exact ih2 _ _ _ _ _ | exact bQ.mono _ _ _ _ | exact ay.mono _ _ _ _ _ | exact dO.refl _ | exact dO.none _ | refine dO.ite ?_ ?_ | refine dO.bind ?_ (fun _ => ?_))
  ·intro y0 y1 y2
   unfold bZ.l1
   repeat' (with_reducible first | exact lS _ _ _ _ _ | exact ih1 _ _ _ | exact ih2 _ _ _ _ _ | exact bQ.mono _ _ _ _ | exact ay.mono _ _ _ _ _ | exact dO.refl _ | exact dO.none _ | refine dO.ite ?_ ?_ | refine dO.bind ?_ (fun _ => ?_))
  ·intro y0 y1 y2 y3 y4
   unfold bZ.l2
   repeat' (with_reducible first | exact lS _ _ _ _ _ | exact ih1 _ _ _ | exact ih2 _ _ _ _ _ | exact bQ.mono _ _ _ _ | exact ay.mono _ _ _ _ _ | exact dO.refl _ | exact dO.none _ | refine dO.ite ?_ ?_ | refine dO.bind ?_ (fun _ => ?_))
theorem bZ.mono : ∀ a0 a1 k, dO (bZ.f k a0 a1) (bZ.f (k + 1) a0 a1) := by
 (intro a0 a1 k); (obtain ⟨lS, ih1, ih2⟩ := bZ.gB k); (unfold bZ.f)
 repeat' (with_reducible first | exact lS _ _ _ _ _ | exact ih1 _ _ _ | exact ih2 _ _ _ _ _ | exact bQ.mono _ _ _ _ | exact ay.mono _ _ _ _ _ | exact dO.refl _ | exact dO.none _ | refine dO.ite ?_ ?_ | refine dO.bind ?_ (fun _ => ?_))
set_option maxHeartbeats 8000000 in
set_option maxRecDepth 100000 in
theorem bZ.calls (k : Nat) (nI : Nat → Prop) (jq : Value) (l0 : List (bC)) (a1 : Int)  (r : List (bC)) (w0 w : World) (hB : Below w0.heap.size w0 w) (ho0 : Kd.R k46 46 w w0.heap.size nI jq l0) (h : bZ.f k l0 a1 = some r) :
  Calls Try.prog 130 #[jq, .int .i64 a1, .func (.func 91) #[] #[]] w fun e w' => e = .returned (.tuple #[]) ∧ Kd.R k46 46 w' w0.heap.size (fun k_ => (nI k_ ∨ w.heap.size ≤ k_)) jq r ∧ Below w0.heap.size w0 w' ∧ Kept w w' (fun k_ => nI k_) := by
 (have Rz := ah.mk (show Kd.R k46 46 w w0.heap.size (fun k_ => (nI k_ ∨ w.heap.size ≤ k_)) jq l0 from Kd.dU ho0 (fun k_ hk => (.inl hk)))); (have HK := ah.mk (Kept.refl w (fun k_ => nI k_))); (have HW0 := ah.mk hB.size); (have HB := ah.mk hB); (clear hB); (have H : (bZ.l0 k l0 a1 20 0 20) = some r := h); (clear h); (have H' := ah.mk H); (clear H); (go_enter Try.func130, Try.ntmps130); (go_wp2); (go_loopg [7, 8] k (fun kq v7 v8 w' => ∃ (gu : List (bC)) (bK : Int) (jd : Int), v7 = .int .i64 bK ∧ v8 = .int .i64 jd ∧ ah (bZ.l0 kq gu a1 20 bK jd = some r) ∧ ah (kq ≤ k) ∧ ah (Kd.R k46 46 w' w0.heap.size (fun k_ => (nI k_ ∨ w.heap.size ≤ k_)) jq gu) ∧ ah (Kept w w' (fun k_ => nI k_)) ∧ ah (Below w0.heap.size w0 w')))
 case atStart => exact ⟨(l0), (0), (20), (by first | rfl | (simp; done) | (simp [*]; done)), (by first | rfl | (simp; done) | (simp [*]; done)), H', ⟨Nat.le_refl _⟩, ⟨by (with_reducible repeat (first | apply Kd.dZ | apply Kd.d_ | apply Kd.eU)); exact Rz.out⟩, ⟨Hu⟩, ⟨Qx⟩⟩
 case round =>
  (clear H'); (try clear c1); (try clear p2); (obtain ⟨gu, bK, jd, rfl, rfl, HA, oh, eF, HK, HB⟩ := hrel)
  cases gk with
  | zero => exact absurd HA.out (by simp [bZ.l0])
  | succ k1 =>
   (have H := HA.out); (clear HA); (simp only [bZ.l0] at H); (by_cases c4 : jd ≤ a1)
   ·rw [if_pos c4] at H
    (have uG : decide (jd ≤ a1) = true := decide_eq_true c4); (clear c4); (replace H := Option.bind_eq_some_iff.mp H); (obtain ⟨aj7, A50, H⟩ := H); (replace H : (bZ.l0 k1 aj7 a1 20 jd (wrap64 (jd + 20))) = some r := H); (have A5 := ah.mk A50); (clear A50); (have H' := ah.mk H); (clear H); (obtain ⟨Ao6, co6, eo6⟩ := Kd.fJ eF.out); (subst eo6)
    go_wp2_with (first | ((with_reducible refine aH (f := 155) rfl ?_); refine dD (some 18) rfl rfl Try.func155 (by kernel_rfl) rfl #[.slice Ao6 gu.length co6, .int .i64 bK, .int .i64 jd, .func (.func 91) #[] #[]] rfl (by (try simp only [List.map_toArray, List.map_cons, List.map_nil]); first | done | rfl) ?_; (with_reducible refine (bQ.calls k1 (fun k_ => some k_ = (.slice Ao6 gu.length co6 : Value).ownBlock) (.slice Ao6 gu.length co6) gu bK jd  aj7 w0 _ ?fM ?fO A5.out).mono ?_); (case fM => exact ae9); (case fO => exact Kd.jY rfl eF.out); rintro e w7 ⟨rfl, hy0, hb, hkp⟩; refine ⟨_, rfl, ?_⟩; replace HK := ah.mk (Kept.then_ (S := (fun k_ => nI k_)) (Hu) hkp (fun k_ hs_ => (fun e_ => (eF.out.1 k_ e_.symm)) hs_)); replace eF := ah.mk (Kd.zl rfl hy0 (fun k_ e_ => eF.out.1 k_ e_)); replace HB := ah.mk (hb); (try clear hb); (try clear hkp); (try clear hy0)))
    go_roundg k1
    case measure => have := oh.out; omega
    case rel => exact ⟨(aj7), (jd), (wrap64 (jd + 20)), (by first | rfl | (simp; done) | (simp [*]; done)), (by first | rfl | (simp; done) | (simp [*]; done)), H', ⟨by have := oh.out; omega⟩, ⟨ae_⟩, ⟨Hu⟩, ⟨Qx⟩⟩
   ·rw [if_neg c4] at H
    (have uG : decide (jd ≤ a1) = false := decide_eq_false c4); (clear c4); (replace H := Option.bind_eq_some_iff.mp H); (obtain ⟨aj8, Wp, H⟩ := H); (replace H : (bZ.l1 k1 aj8 a1 20) = some r := H); (have A8 := ah.mk Wp); (clear Wp); (have H' := ah.mk H); (clear H); (obtain ⟨Z5, Z7, eo9⟩ := Kd.fJ eF.out); (subst eo9)
    go_wp2_with (first | ((with_reducible refine aH (f := 155) rfl ?_); refine dD (some 27) rfl rfl Try.func155 (by kernel_rfl) rfl #[.slice Z5 gu.length Z7, .int .i64 bK, .int .i64 a1, .func (.func 91) #[] #[]] rfl (by (try simp only [List.map_toArray, List.map_cons, List.map_nil]); first | done | rfl) ?_; (with_reducible refine (bQ.calls k1 (fun k_ => some k_ = (.slice Z5 gu.length Z7 : Value).ownBlock) (.slice Z5 gu.length Z7) gu bK a1  aj8 w0 _ ?fM ?fO A8.out).mono ?_); (case fM => exact ae9); (case fO => exact Kd.jY rfl eF.out); rintro e w10 ⟨rfl, hy0, hb, hkp⟩; refine ⟨_, rfl, ?_⟩; replace HK := ah.mk (Kept.then_ (S := (fun k_ => nI k_)) (Hu) hkp (fun k_ hs_ => (fun e_ => (eF.out.1 k_ e_.symm)) hs_)); replace eF := ah.mk (Kd.zl rfl hy0 (fun k_ e_ => eF.out.1 k_ e_)); replace HB := ah.mk (hb); (try clear hb); (try clear hkp); (try clear hy0)))
    (try simp only [Act.put, List.setIfInBounds_toArray, List.set_cons_zero, List.set_cons_succ])
    go_loopg [6] k1 (fun kq v6 w' => ∃ (bG : List (bC)) (Es : Int), v6 = .int .i64 Es ∧ ah (bZ.l1 kq bG a1 Es = some r) ∧ ah (kq ≤ k1) ∧ ah (Kd.R k46 46 w' w0.heap.size (fun k_ => (nI k_ ∨ w.heap.size ≤ k_)) (.slice Z5 gu.length Z7) bG) ∧ ah (Kept w w' (fun k_ => nI k_)) ∧ ah (Below w0.heap.size w0 w'))
    case atStart => exact ⟨(aj8), (20), (by first | rfl | (simp; done) | (simp [*]; done)), H', ⟨Nat.le_refl _⟩, ⟨ae_⟩, ⟨Hu⟩, ⟨Qx⟩⟩
    case round =>
     (clear H'); (try clear c1); (try clear p2); (try clear c4); (try clear uG); (try clear p6); (try clear p2); (obtain ⟨bG, Es, rfl, HA, Ic, eF, HK, HB⟩ := hrel); (have UN := (Kd.dh eF.out).1); (rw [UN] at eF); ((try simp only [UN]))
     cases gk with
     | zero => exact absurd HA.out (by simp [bZ.l1])
     | succ k2 =>
      (have H := HA.out); (clear HA); (simp only [bZ.l1] at H); (by_cases c11 : Es < a1)
      ·rw [if_pos c11] at H
       (have II : decide (Es < a1) = true := decide_eq_true c11); (clear c11); (have H' := ah.mk H); (clear H); (go_wp2); (go_loopg [7, 8] k2 (fun kq v7 v8 w' => ∃ (QY : List (bC)) (Oh : Int) (QZ : Int), v7 = .int .i64 Oh ∧ v8 = .int .i64 QZ ∧ ah (bZ.l2 kq QY a1 Es Oh QZ = some r) ∧ ah (kq ≤ k2) ∧ ah (Kd.R k46 46 w' w0.heap.size (fun k_ => (nI k_ ∨ w.heap.size ≤ k_)) (.slice Z5 bG.length Z7) QY) ∧ ah (Kept w w' (fun k_ => nI k_)) ∧ ah (Below w0.heap.size w0 w')))
       case atStart => exact ⟨(bG), (0), (wrap64 (2 * Es)), (by first | rfl | (simp; done) | (simp [*]; done)), (by first | rfl | (simp; done) | (simp [*]; done)), H', ⟨Nat.le_refl _⟩, ⟨by (try simp only [UN]); (with_reducible repeat (first | apply Kd.dZ | apply Kd.d_ | apply Kd.eU)); exact eF.out⟩, ⟨Hu⟩, ⟨Qx⟩⟩
       case round =>
        (clear H'); (try clear c1); (try clear p2); (try clear c4); (try clear uG); (try clear p6); (try clear c11); (try clear II); (try clear p2); (try clear p6); (obtain ⟨QY, Oh, QZ, rfl, rfl, HA, HK3, eF, HK, HB⟩ := hrel); (have Wn := (Kd.dh eF.out).1); (rw [Wn] at eF); ((try simp only [Wn]))
        cases gk with
        | zero => exact absurd HA.out (by simp [bZ.l2])
        | succ k3 =>
         (have H := HA.out); (clear HA); (simp only [bZ.l2] at H); (by_cases c12 : QZ ≤ a1)
         ·rw [if_pos c12] at H
          (have uf : decide (QZ ≤ a1) = true := decide_eq_true c12); (clear c12); (replace H := Option.bind_eq_some_iff.mp H); (obtain ⟨aj9, Ui, H⟩ := H); (replace H : (bZ.l2 k3 aj9 a1 Es QZ (wrap64 (QZ + (wrap64 (2 * Es))))) = some r := H); (have A13 := ah.mk Ui); (clear Ui); (have H' := ah.mk H); (clear H)
          go_wp2_with (first | ((with_reducible refine aH (f := 156) rfl ?_); refine dD (some 43) rfl rfl Try.func156 (by kernel_rfl) rfl #[.slice Z5 QY.length Z7, .int .i64 Oh, .int .i64 (wrap64 (Oh + Es)), .int .i64 QZ, .func (.func 91) #[] #[]] rfl (by (try simp only [List.map_toArray, List.map_cons, List.map_nil]); first | done | rfl) ?_; (with_reducible refine (ay.calls k3 (fun k_ => some k_ = (.slice Z5 QY.length Z7 : Value).ownBlock) (.slice Z5 QY.length Z7) QY Oh (wrap64 (Oh + Es)) QZ  aj9 w0 _ ?fM ?fO A13.out).mono ?_); (case fM => exact ae9); (case fO => exact Kd.jY rfl eF.out); rintro e TY ⟨rfl, hy0, hb, hkp⟩; refine ⟨_, rfl, ?_⟩; replace HK := ah.mk (Kept.then_ (S := (fun k_ => nI k_)) (Hu) hkp (fun k_ hs_ => (fun e_ => (eF.out.1 k_ e_.symm)) hs_)); replace eF := ah.mk (Kd.zl rfl hy0 (fun k_ e_ => eF.out.1 k_ e_)); replace HB := ah.mk (hb); (try clear hb); (try clear hkp); (try clear hy0)))
          ((try simp only [← Wn])); (go_roundg k3)
          case measure => have := oh.out; have := Ic.out; have := HK3.out; omega
          case rel => exact ⟨(aj9), (QZ), (wrap64 (QZ + (wrap64 (2 * Es)))), (by first | rfl | (simp; done) | (simp [*]; done)), (by first | rfl | (simp; done) | (simp [*]; done)), H', ⟨aj3⟩, ⟨aj6⟩, ⟨Hu⟩, ⟨Qx⟩⟩
         ·rw [if_neg c12] at H
          (have uf : decide (QZ ≤ a1) = false := decide_eq_false c12); (clear c12); (by_cases c15 : (wrap64 (Oh + Es)) < a1)
          ·rw [if_pos c15] at H
           (have IG : decide ((wrap64 (Oh + Es)) < a1) = true := decide_eq_true c15); (clear c15); (replace H := Option.bind_eq_some_iff.mp H); (obtain ⟨t182, ayQ, H⟩ := H); (replace H : (bZ.l1 k3 t182 a1 (wrap64 (Es * 2))) = some r := H); (have A16 := ah.mk ayQ); (clear ayQ); (have H' := ah.mk H); (clear H)
           go_wp2_with (first | ((with_reducible refine aH (f := 156) rfl ?_); refine dD (some 60) rfl rfl Try.func156 (by kernel_rfl) rfl #[.slice Z5 QY.length Z7, .int .i64 Oh, .int .i64 (wrap64 (Oh + Es)), .int .i64 a1, .func (.func 91) #[] #[]] rfl (by (try simp only [List.map_toArray, List.map_cons, List.map_nil]); first | done | rfl) ?_; (with_reducible refine (ay.calls k3 (fun k_ => some k_ = (.slice Z5 QY.length Z7 : Value).ownBlock) (.slice Z5 QY.length Z7) QY Oh (wrap64 (Oh + Es)) a1  t182 w0 _ ?fM ?fO A16.out).mono ?_); (case fM => exact ae9); (case fO => exact Kd.jY rfl eF.out); rintro e w17 ⟨rfl, hy0, hb, hkp⟩; refine ⟨_, rfl, ?_⟩; replace HK := ah.mk (Kept.then_ (S := (fun k_ => nI k_)) (Hu) hkp (fun k_ hs_ => (fun e_ => (eF.out.1 k_ e_.symm)) hs_)); replace eF := ah.mk (Kd.zl rfl hy0 (fun k_ e_ => eF.out.1 k_ e_)); replace HB := ah.mk (hb); (try clear hb); (try clear hkp); (try clear hy0)))
           ((try simp only [← UN, ← Wn])); (go_roundg k3)
           case measure => have := oh.out; have := Ic.out; have := HK3.out; omega
           case rel => exact ⟨(t182), (wrap64 (Es * 2)), (by first | rfl | (simp; done) | (simp [*]; done)), H', ⟨aj3⟩, ⟨aj6⟩, ⟨Hu⟩, ⟨Qx⟩⟩
          ·rw [if_neg c15] at H
           (have IG : decide ((wrap64 (Oh + Es)) < a1) = false := decide_eq_false c15); (clear c15); (have H' := ah.mk H); (clear H); (go_wp2); ((try simp only [← UN, ← Wn])); (go_roundg k3)
           case measure => have := oh.out; have := Ic.out; have := HK3.out; omega
           case rel => exact ⟨(QY), (wrap64 (Es * 2)), (by first | rfl | (simp; done) | (simp [*]; done)), H', ⟨aj3⟩, ⟨aj6⟩, ⟨Hu⟩, ⟨Qx⟩⟩
      ·rw [if_neg c11] at H
       (have II : decide (Es < a1) = false := decide_eq_false c11); (clear c11); (obtain rfl := Option.some.inj H); (go_wp2); (first | go_end0 | ((try simp only [Exit.inBlock, Exit.then]); refine bodyPost_ret (results_none rfl _ _ _) rfl ?_)); (exact ⟨by first | rfl | (simp [*, bg, bn] <;> rfl), (by first | exact (ae_) | (simp only [UN]; exact (ae_))), Qx, Hu⟩)

end Go.Proofs.Ytnklnjghecmihaa.L2
