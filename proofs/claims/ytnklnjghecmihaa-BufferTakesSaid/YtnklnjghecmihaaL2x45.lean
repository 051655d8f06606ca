/- tight -/ -- written by wip/myprint.py
import Derived.Test.YtnklnjghecmihaaL2x0
import Derived.Test.YtnklnjghecmihaaL2P0
namespace Go.Proofs.Ytnklnjghecmihaa.L2
open Go.RowKit Go.Proofs.YtnklnjghecmihaaW aQ dV fP Mine
attribute [local go_sem] iM iO jk jl gW gX iP iQ iK iL dP dR dQ
set_option linter.unusedVariables false
set_option linter.unusedSimpArgs false
theorem abq {P : Prop} (h : P := by repeat (first | exact jg.refl _ | apply jg.step)) : P := h

attribute [local go_sem high] axi
/-! ### catchmentref04_Same: function 28 -/
def aJ.l0 : Nat → List (bC) → List (bC) → Int → Option (Bool)
 | 0, _, _, _ => none
 | k + 1, x0, x1, x5 => if x5 < (x0.length : Int) then (if 0 ≤ x5 then (if x5 < (x1.length : Int) then (if (!(((aj x0 x5).f0) == ((aj x1 x5).f0)) || (!(((aj x0 x5).f1) == ((aj x1 x5).f1)) || (!((((aj x0 x5).f2).toList) == (((aj x1 x5).f2).toList)) || (!((((aj x0 x5).f3).toList) == (((aj x1 x5).f3).toList)) || (!((((aj x0 x5).f4).toList) == (((aj x1 x5).f4).toList)) || (!(((aj x0 x5).f5) == ((aj x1 x5).f5)))))))) = true then (some false) else (aJ.l0 k x0 x1 (wrap64 (x5 + 1)))) else (none)) else (none)) else (some true)
def aJ.f (k : Nat) (l0 : List (bC)) (l1 : List (bC)) : Option (Bool) := if (l0.length : Int) = (l1.length : Int) then (aJ.l0 k l0 l1 0) else (some false)
theorem aJ.gB : ∀ k, (∀ y0 y1 y2, dO (aJ.l0 k y0 y1 y2) (aJ.l0 (k + 1) y0 y1 y2))
 | 0 => fun _ _ _ r h => by simp [aJ.l0] at h
 | k + 1 => by
  have lS := aJ.gB k
  ·intro y0 y1 y2
   unfold aJ.l0
   repeat' (with_reducible first | exact lS _ _ _ | exact dO.refl _ | exact dO.none _ | refine dO.ite ?_ ?_ | refine dO.bind ?_ (fun _ => ?_))
theorem aJ.mono : ∀ a0 a1 k, dO (aJ.f k a0 a1) (aJ.f (k + 1) a0 a1) := by
 (intro a0 a1 k); (have lS := aJ.gB k); (unfold aJ.f)
 repeat' (with_reducible first | exact lS _ _ _ | exact dO.refl _ | exact dO.none _ | refine dO.ite ?_ ?_ | refine dO.bind ?_ (fun _ => ?_))
set_option maxHeartbeats 8000000 in
set_option maxRecDepth 100000 in
theorem aJ.calls (k : Nat) (A0 : Option Addr) (c0 : Nat) (l0 : List (bC)) (A1 : Option Addr) (c1 : Nat) (l1 : List (bC)) (r : Bool) (w : World) (hr0 : Kd.C k46 w A0 l0.length l0) (hc0 : l0.length ≤ c0) (hr1 : Kd.C k46 w A1 l1.length l1) (hc1 : l1.length ≤ c1) (h : aJ.f k l0 l1 = some r) :
  Calls Try.prog 28 #[.slice A0 l0.length c0, .slice A1 l1.length c1] w fun e w' => e = .returned (.bool r) ∧ jg w w' := by
 (have vU := Try.underlying46); (have HR0 := ah.mk hr0); (have QK := ah.mk hc0); (clear hr0 hc0); (have HR1 := ah.mk hr1); (have HC1 := ah.mk hc1); (clear hr1 hc1); (have H : (if (l0.length : Int) = (l1.length : Int) then (aJ.l0 k l0 l1 0) else (some false)) = some r := h); (clear h); (by_cases c3 : (l0.length : Int) = (l1.length : Int))
 ·rw [if_pos c3] at H
  (have zn : ((l0.length : Int) == (l1.length : Int)) = true := beq_iff_eq.mpr c3); (have TU : ((l0.length : Int) != (l1.length : Int)) = false := bne_eq_false_iff_eq.mpr c3); (have at7 : (l0.length == l1.length) = true := by first | simpa using c3 | (simp at c3 ⊢; omega)); (clear c3); (have H' := ah.mk H); (clear H); (go_enter Try.func28, Try.ntmps28); (go_wp2); (repeat (go_quiet (fail); try go_wp2)); (go_loopg [5] k (fun kq v5 w' => ∃ (dW : Int), v5 = .int .i64 dW ∧ ah (aJ.l0 kq l0 l1 dW = some r) ∧ ah (kq ≤ k) ∧ jg w w'))
  case atStart => exact ⟨(0), (by first | rfl | (simp; done) | (simp [*]; done)), H', ⟨Nat.le_refl _⟩, abq⟩
  case round =>
   (clear H'); (try clear c1); (try clear c2); (try clear p2); (try clear c3); (try clear zn); (try clear TU); (try clear at7); (obtain ⟨dW, rfl, HA, oh, ⟨m1, rfl⟩⟩ := hrel)
   cases gk with
   | zero => exact absurd HA.out (by simp [aJ.l0])
   | succ k1 =>
    (have H := HA.out); (clear HA); (simp only [aJ.l0] at H); (by_cases c4 : dW < (l0.length : Int))
    ·rw [if_pos c4] at H
     (have uG : decide (dW < (l0.length : Int)) = true := decide_eq_true c4); (clear c4); (by_cases c5 : 0 ≤ dW)
     ·rw [if_pos c5] at H
      (have zU : decide (0 ≤ dW) = true := decide_eq_true c5); (clear c5); (by_cases c6 : dW < (l1.length : Int))
      ·rw [if_pos c6] at H
       (have uw : decide (dW < (l1.length : Int)) = true := decide_eq_true c6); (clear c6); (by_cases c7 : (!(((aj l0 dW).f0) == ((aj l1 dW).f0)) || (!(((aj l0 dW).f1) == ((aj l1 dW).f1)) || (!((((aj l0 dW).f2).toList) == (((aj l1 dW).f2).toList)) || (!((((aj l0 dW).f3).toList) == (((aj l1 dW).f3).toList)) || (!((((aj l0 dW).f4).toList) == (((aj l1 dW).f4).toList)) || (!(((aj l0 dW).f5) == ((aj l1 dW).f5)))))))) = true)
       ·rw [if_pos c7] at H
        (have FP : (!(((aj l0 dW).f0) == ((aj l1 dW).f0)) || (!(((aj l0 dW).f1) == ((aj l1 dW).f1)) || (!((((aj l0 dW).f2).toList) == (((aj l1 dW).f2).toList)) || (!((((aj l0 dW).f3).toList) == (((aj l1 dW).f3).toList)) || (!((((aj l0 dW).f4).toList) == (((aj l1 dW).f4).toList)) || (!(((aj l0 dW).f5) == ((aj l1 dW).f5)))))))) = true := c7); (clear c7); (obtain rfl := Option.some.inj H); (have acY : 0 ≤ (dW : Int) := of_decide_eq_true (by first | (with_reducible assumption) | assumption)); (have acZ : dW < (l0.length : Int) := of_decide_eq_true (by first | (with_reducible assumption) | assumption)); (obtain ⟨aBk, e321, apE, apF, apG, apH, apI, apJ⟩ := gJ HR0.out dW acY acZ); (cases e321); (replace acY := eq_true acY); (replace acZ := eq_true acZ); (have ac0 : 0 ≤ (dW : Int) := of_decide_eq_true (by first | (with_reducible assumption) | assumption)); (have ac1 : dW < (l1.length : Int) := of_decide_eq_true (by first | (with_reducible assumption) | assumption)); (obtain ⟨aBl, avF, apK, apL, apM, apN, apO, apP⟩ := gJ HR1.out dW ac0 ac1)
        (cases avF); (replace ac0 := eq_true ac0); (replace ac1 := eq_true ac1); (go_wp2); (repeat (go_quiet (fail); try go_wp2)); (go_ret); (exact ⟨by first | rfl | (simp; done) | (simp [*]; done), abq⟩)
       ·rw [if_neg c7] at H
        (have FP : (!(((aj l0 dW).f0) == ((aj l1 dW).f0)) || (!(((aj l0 dW).f1) == ((aj l1 dW).f1)) || (!((((aj l0 dW).f2).toList) == (((aj l1 dW).f2).toList)) || (!((((aj l0 dW).f3).toList) == (((aj l1 dW).f3).toList)) || (!((((aj l0 dW).f4).toList) == (((aj l1 dW).f4).toList)) || (!(((aj l0 dW).f5) == ((aj l1 dW).f5)))))))) = false := by simpa using c7); (clear c7); (have H' := ah.mk H); (clear H); (have acY : 0 ≤ (dW : Int) := of_decide_eq_true (by first | (with_reducible assumption) | assumption)); (have acZ : dW < (l0.length : Int) := of_decide_eq_true (by first | (with_reducible assumption) | assumption)); (obtain ⟨aBk, e321, apE, apF, apG, apH, apI, apJ⟩ := gJ HR0.out dW acY acZ); (cases e321); (replace acY := eq_true acY); (replace acZ := eq_true acZ); (have ac0 : 0 ≤ (dW : Int) := of_decide_eq_true (by first | (with_reducible assumption) | assumption)); (have ac1 : dW < (l1.length : Int) := of_decide_eq_true (by first | (with_reducible assumption) | assumption))
        (obtain ⟨aBl, avF, apK, apL, apM, apN, apO, apP⟩ := gJ HR1.out dW ac0 ac1); (cases avF); (replace ac0 := eq_true ac0); (replace ac1 := eq_true ac1); (go_wp2); (repeat (go_quiet (fail); try go_wp2)); (go_roundg k1)
        case measure => have := oh.out; omega
        case rel => exact ⟨(wrap64 (dW + 1)), (by first | rfl | (simp; done) | (simp [*]; done)), H', ⟨by have := oh.out; omega⟩, abq⟩
      ·rw [if_neg c6] at H
       exact absurd H (by simp)
     ·rw [if_neg c5] at H
      exact absurd H (by simp)
    ·rw [if_neg c4] at H
     (have uG : decide (dW < (l0.length : Int)) = false := decide_eq_false c4); (clear c4); (obtain rfl := Option.some.inj H); (go_wp2); (repeat (go_quiet (fail); try go_wp2)); (go_ret); (exact ⟨by first | rfl | (simp; done) | (simp [*]; done), abq⟩)
 ·rw [if_neg c3] at H
  (have zn : ((l0.length : Int) == (l1.length : Int)) = false := beq_eq_false_iff_ne.mpr c3); (have TU : ((l0.length : Int) != (l1.length : Int)) = true := bne_iff_ne.mpr c3); (have at7 : (l0.length == l1.length) = false := by first | simpa using c3 | (simp at c3 ⊢; omega)); (obtain rfl := Option.some.inj H); (go_enter Try.func28, Try.ntmps28); (go_wp2); (repeat (go_quiet (fail); try go_wp2)); (go_ret); (exact ⟨by first | rfl | (simp; done) | (simp [*]; done), abq⟩)

end Go.Proofs.Ytnklnjghecmihaa.L2
