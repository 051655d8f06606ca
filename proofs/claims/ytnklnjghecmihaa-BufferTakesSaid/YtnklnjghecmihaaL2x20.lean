/- tight -/ -- written by wip/myprint.py
import Derived.Test.YtnklnjghecmihaaL2x0
import Derived.Test.YtnklnjghecmihaaL2x19
namespace Go.Proofs.Ytnklnjghecmihaa.L2
open Go.RowKit Go.Proofs.YtnklnjghecmihaaW aQ dV fP Mine
attribute [local go_sem] iM iO jk jl gW gX iP iQ iK iL dP dR dQ
set_option linter.unusedVariables false
set_option linter.unusedSimpArgs false
theorem Ug {P : Prop} (h : P := by repeat (first | (with_reducible first | exact HK.out | apply Kept.alloc | apply Kept.drewN | apply Kept.drew) | exact HK.out)) : P := h
theorem ae0 {P : Prop} (h : P := by (with_reducible repeat first | exact HB.out | apply mG | apply ni | apply ny) <;> exact HB.out) : P := h
theorem ajC {P : Prop} (h : P := by repeat (first | (with_reducible first | exact HB.out | apply mG | apply ni | apply ny) | exact HB.out)) : P := h
theorem ajD {P : Prop} (h : P := by (with_reducible repeat (first | apply Kd.dZ | apply Kd.d_ | apply Kd.eU)); exact eF.out) : P := h

/-! ### api_Msg_173: function 173 -/
def dY.l0 : Nat → List (bC) → Int → Int → Int → Option ((List (bC)))
 | 0, _, _, _, _ => none
 | k + 1, x0, x2, x10, x11 => if x10 = x11 then ((dS.f k x0 (wrap64 (x2 - x10)) x2 x10).bind fun amR => (some amR)) else (if x10 > x11 then ((dS.f k x0 (wrap64 (x2 - x10)) x2 x11).bind fun t156 => (dY.l0 k t156 x2 (wrap64 (x10 - x11)) x11)) else ((dS.f k x0 (wrap64 (x2 - x10)) (wrap64 ((wrap64 (x2 + x11)) - x10)) x10).bind fun t157 => (dY.l0 k t157 x2 x10 (wrap64 (x11 - x10)))))
def dY.f (k : Nat) (l0 : List (bC)) (a1 : Int) (a2 : Int) (a3 : Int)  : Option ((List (bC))) := dY.l0 k l0 a2 (wrap64 (a2 - a1)) (wrap64 (a3 - a2))
theorem dY.gB : ∀ k, (∀ y0 y1 y2 y3, dO (dY.l0 k y0 y1 y2 y3) (dY.l0 (k + 1) y0 y1 y2 y3))
 | 0 => fun _ _ _ _ r h => by simp [dY.l0] at h
 | k + 1 => by
  have lS := dY.gB k
  ·intro y0 y1 y2 y3
   unfold dY.l0
   repeat' (with_reducible first | exact lS _ _ _ _ | exact dS.mono _ _ _ _ _ | exact dO.refl _ | exact dO.none _ | refine dO.ite ?_ ?_ | refine dO.bind ?_ (fun _ => ?_))
theorem dY.mono : ∀ a0 a1 a2 a3 k, dO (dY.f k a0 a1 a2 a3) (dY.f (k + 1) a0 a1 a2 a3) := by
 (intro a0 a1 a2 a3 k); (have lS := dY.gB k); (unfold dY.f)
 repeat' (with_reducible first | exact lS _ _ _ _ | exact dS.mono _ _ _ _ _ | exact dO.refl _ | exact dO.none _ | refine dO.ite ?_ ?_ | refine dO.bind ?_ (fun _ => ?_))
set_option maxHeartbeats 8000000 in
set_option maxRecDepth 100000 in
theorem dY.calls (k : Nat) (nI : Nat → Prop) (jq : Value) (l0 : List (bC)) (a1 : Int) (a2 : Int) (a3 : Int)  (r : List (bC)) (w0 w : World) (hB : Below w0.heap.size w0 w) (ho0 : Kd.R k46 46 w w0.heap.size nI jq l0) (h : dY.f k l0 a1 a2 a3 = some r) :
  Calls Try.prog 173 #[jq, .int .i64 a1, .int .i64 a2, .int .i64 a3, .func (.func 91) #[] #[]] w fun e w' => e = .returned (.tuple #[]) ∧ Kd.R k46 46 w' w0.heap.size (fun k_ => (nI k_ ∨ w.heap.size ≤ k_)) jq r ∧ Below w0.heap.size w0 w' ∧ Kept w w' (fun k_ => nI k_) := by
 (have Rz := ah.mk (show Kd.R k46 46 w w0.heap.size (fun k_ => (nI k_ ∨ w.heap.size ≤ k_)) jq l0 from Kd.dU ho0 (fun k_ hk => (.inl hk)))); (have HK := ah.mk (Kept.refl w (fun k_ => nI k_))); (have HW0 := ah.mk hB.size); (have HB := ah.mk hB); (clear hB); (have H : (dY.l0 k l0 a2 (wrap64 (a2 - a1)) (wrap64 (a3 - a2))) = some r := h); (clear h); (have H' := ah.mk H); (clear H); (go_enter Try.func173, Try.ntmps173); (go_wp2); (go_loopg [10, 11] k (fun kq v10 v11 w' => ∃ (gu : List (bC)) (cO : Int) (nY : Int), v10 = .int .i64 cO ∧ v11 = .int .i64 nY ∧ ah (dY.l0 kq gu a2 cO nY = some r) ∧ ah (kq ≤ k) ∧ ah (Kd.R k46 46 w' w0.heap.size (fun k_ => (nI k_ ∨ w.heap.size ≤ k_)) jq gu) ∧ ah (Kept w w' (fun k_ => nI k_)) ∧ ah (Below w0.heap.size w0 w')))
 case atStart => exact ⟨(l0), (wrap64 (a2 - a1)), (wrap64 (a3 - a2)), (by first | rfl | (simp; done) | (simp [*]; done)), (by first | rfl | (simp; done) | (simp [*]; done)), H', ⟨Nat.le_refl _⟩, ⟨by (with_reducible repeat (first | apply Kd.dZ | apply Kd.d_ | apply Kd.eU)); exact Rz.out⟩, ⟨Ug⟩, ⟨ae0⟩⟩
 case round =>
  (clear H'); (try clear c1); (try clear p2); (obtain ⟨gu, cO, nY, rfl, rfl, HA, oh, eF, HK, HB⟩ := hrel)
  cases gk with
  | zero => exact absurd HA.out (by simp [dY.l0])
  | succ k1 =>
   (have H := HA.out); (clear HA); (simp only [dY.l0] at H); (by_cases c6 : cO = nY)
   ·rw [if_pos c6] at H
    (have uw : (cO == nY) = true := beq_iff_eq.mpr c6); (have QL : (cO != nY) = false := bne_eq_false_iff_eq.mpr c6); (clear c6); (replace H := Option.bind_eq_some_iff.mp H); (obtain ⟨amR, VX, H⟩ := H); (replace H : (some amR) = some r := H); (have A7 := ah.mk VX); (clear VX); (obtain rfl := Option.some.inj H); (obtain ⟨Ao8, co8, eo8⟩ := Kd.fJ eF.out); (subst eo8)
    go_wp2_with (first | ((with_reducible refine aH (f := 181) rfl ?_); refine dD (some 57) rfl rfl Try.func181 (by kernel_rfl) rfl #[.slice Ao8 gu.length co8, .int .i64 (wrap64 (a2 - cO)), .int .i64 a2, .int .i64 cO, .func (.func 91) #[] #[]] rfl (by (try simp only [List.map_toArray, List.map_cons, List.map_nil]); first | done | rfl) ?_; (with_reducible refine (dS.calls k1 (fun k_ => some k_ = (.slice Ao8 gu.length co8 : Value).ownBlock) (.slice Ao8 gu.length co8) gu (wrap64 (a2 - cO)) a2 cO  amR w0 _ ?fM ?fO A7.out).mono ?_); (case fM => exact ajC); (case fO => exact Kd.jY rfl eF.out); rintro e w9 ⟨rfl, hy0, hb, hkp⟩; refine ⟨_, rfl, ?_⟩; replace HK := ah.mk (Kept.then_ (S := (fun k_ => nI k_)) (Ug) hkp (fun k_ hs_ => (fun e_ => (eF.out.1 k_ e_.symm)) hs_)); replace eF := ah.mk (Kd.zl rfl hy0 (fun k_ e_ => eF.out.1 k_ e_)); replace HB := ah.mk (hb); (try clear hb); (try clear hkp); (try clear hy0)))
    (first | go_end0 | ((try simp only [Exit.inBlock, Exit.then]); refine bodyPost_ret (results_none rfl _ _ _) rfl ?_)); (exact ⟨by first | rfl | (simp [*, bg, bn] <;> rfl), ajD, ae0, Ug⟩)
   ·rw [if_neg c6] at H
    (have uw : (cO == nY) = false := beq_eq_false_iff_ne.mpr c6); (have QL : (cO != nY) = true := bne_iff_ne.mpr c6); (by_cases c10 : cO > nY)
    ·rw [if_pos c10] at H
     (have vV : decide (nY < cO) = true := decide_eq_true c10); (clear c10); (replace H := Option.bind_eq_some_iff.mp H); (obtain ⟨t156, IJ, H⟩ := H); (replace H : (dY.l0 k1 t156 a2 (wrap64 (cO - nY)) nY) = some r := H); (have A11 := ah.mk IJ); (clear IJ); (have H' := ah.mk H); (clear H); (obtain ⟨ajE, ajF, amS⟩ := Kd.fJ eF.out); (subst amS)
     go_wp2_with (first | ((with_reducible refine aH (f := 181) rfl ?_); refine dD (some 31) rfl rfl Try.func181 (by kernel_rfl) rfl #[.slice ajE gu.length ajF, .int .i64 (wrap64 (a2 - cO)), .int .i64 a2, .int .i64 nY, .func (.func 91) #[] #[]] rfl (by (try simp only [List.map_toArray, List.map_cons, List.map_nil]); first | done | rfl) ?_; (with_reducible refine (dS.calls k1 (fun k_ => some k_ = (.slice ajE gu.length ajF : Value).ownBlock) (.slice ajE gu.length ajF) gu (wrap64 (a2 - cO)) a2 nY  t156 w0 _ ?fM ?fO A11.out).mono ?_); (case fM => exact ajC); (case fO => exact Kd.jY rfl eF.out); rintro e w13 ⟨rfl, hy0, hb, hkp⟩; refine ⟨_, rfl, ?_⟩; replace HK := ah.mk (Kept.then_ (S := (fun k_ => nI k_)) (Ug) hkp (fun k_ hs_ => (fun e_ => (eF.out.1 k_ e_.symm)) hs_)); replace eF := ah.mk (Kd.zl rfl hy0 (fun k_ e_ => eF.out.1 k_ e_)); replace HB := ah.mk (hb); (try clear hb); (try clear hkp); (try clear hy0)))
     go_roundg k1
     case measure => have := oh.out; omega
     case rel => exact ⟨(t156), (wrap64 (cO - nY)), (nY), (by first | rfl | (simp; done) | (simp [*]; done)), (by first | rfl | (simp; done) | (simp [*]; done)), H', ⟨by have := oh.out; omega⟩, ⟨ajD⟩, ⟨Ug⟩, ⟨ae0⟩⟩
    ·rw [if_neg c10] at H
     (have vV : decide (nY < cO) = false := decide_eq_false c10); (clear c10); (replace H := Option.bind_eq_some_iff.mp H); (obtain ⟨t157, aaL, H⟩ := H); (replace H : (dY.l0 k1 t157 a2 cO (wrap64 (nY - cO))) = some r := H); (have A14 := ah.mk aaL); (clear aaL); (have H' := ah.mk H); (clear H); (obtain ⟨auJ, auK, aKh⟩ := Kd.fJ eF.out); (subst aKh)
     go_wp2_with (first | ((with_reducible refine aH (f := 181) rfl ?_); refine dD (some 46) rfl rfl Try.func181 (by kernel_rfl) rfl #[.slice auJ gu.length auK, .int .i64 (wrap64 (a2 - cO)), .int .i64 (wrap64 ((wrap64 (a2 + nY)) - cO)), .int .i64 cO, .func (.func 91) #[] #[]] rfl (by (try simp only [List.map_toArray, List.map_cons, List.map_nil]); first | done | rfl) ?_; (with_reducible refine (dS.calls k1 (fun k_ => some k_ = (.slice auJ gu.length auK : Value).ownBlock) (.slice auJ gu.length auK) gu (wrap64 (a2 - cO)) (wrap64 ((wrap64 (a2 + nY)) - cO)) cO  t157 w0 _ ?fM ?fO A14.out).mono ?_); (case fM => exact ajC); (case fO => exact Kd.jY rfl eF.out); rintro e w16 ⟨rfl, hy0, hb, hkp⟩; refine ⟨_, rfl, ?_⟩; replace HK := ah.mk (Kept.then_ (S := (fun k_ => nI k_)) (Ug) hkp (fun k_ hs_ => (fun e_ => (eF.out.1 k_ e_.symm)) hs_)); replace eF := ah.mk (Kd.zl rfl hy0 (fun k_ e_ => eF.out.1 k_ e_)); replace HB := ah.mk (hb); (try clear hb); (try clear hkp); (try clear hy0)))
     go_roundg k1
     case measure => have := oh.out; omega
     case rel => exact ⟨(t157), (cO), (wrap64 (nY - cO)), (by first | rfl | (simp; done) | (simp [*]; done)), (by first | rfl | (simp; done) | (simp [*]; done)), H', ⟨by have := oh.out; omega⟩, ⟨ajD⟩, ⟨Ug⟩, ⟨ae0⟩⟩

end Go.Proofs.Ytnklnjghecmihaa.L2
