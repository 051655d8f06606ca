/- tight -/ -- written by wip/myprint.py
import Derived.Test.YtnklnjghecmihaaL2x0
import Derived.Test.YtnklnjghecmihaaL2x60
namespace Go.Proofs.Ytnklnjghecmihaa.L2
open Go.RowKit Go.Proofs.YtnklnjghecmihaaW aQ dV fP Mine
attribute [local go_sem] iM iO jk jl gW gX iP iQ iK iL dP dR dQ
set_option linter.unusedVariables false
set_option linter.unusedSimpArgs false
theorem WW {P : Prop} (h : P := by (with_reducible repeat first | exact HB.out | apply mG | apply ni | apply ny) <;> exact HB.out) : P := h

/-! ### catchmentref05_Value: function 50 -/
mutual
def bD.j0 : Nat → List (bC) → ByteArray → ByteArray → Bool → Option (ByteArray × Bool)
 | 0, _, _, _, _ => none
 | k + 1, x0, x1, x2, x3 => bD.l0 k x0 x1 x2 x3 0
def bD.l0 : Nat → List (bC) → ByteArray → ByteArray → Bool → Int → Option (ByteArray × Bool)
 | 0, _, _, _, _, _ => none
 | k + 1, x0, x1, x2, x3, x10 => if x10 < (x0.length : Int) then (if 0 ≤ x10 then ((dH.f k ((aj x0 x10).f0) ((aj x0 x10).f1) ((aj x0 x10).f2) ((aj x0 x10).f3) ((aj x0 x10).f4) ((aj x0 x10).f5) x1 x2 x3).bind fun as6 => (bD.l0 k x0 x1 as6.1 as6.2 (wrap64 (x10 + 1)))) else (none)) else (some (x2, x3))
end
def bD.f (k : Nat) (l0 : List (bC)) (a1 : ByteArray) (a2 : ByteArray) (a3 : Bool) : Option (ByteArray × Bool) := if a3 = true then (bD.j0 k l0 a1 a2 a3) else (bD.j0 k l0 a1 (⟨#[]⟩ : ByteArray) a3)
theorem bD.gB : ∀ k, (∀ y0 y1 y2 y3, dO (bD.j0 k y0 y1 y2 y3) (bD.j0 (k + 1) y0 y1 y2 y3)) ∧ (∀ y0 y1 y2 y3 y4, dO (bD.l0 k y0 y1 y2 y3 y4) (bD.l0 (k + 1) y0 y1 y2 y3 y4))
 | 0 => ⟨fun _ _ _ _ r h => by simp [bD.j0] at h, fun _ _ _ _ _ r h => by simp [bD.l0] at h⟩
 | k + 1 => by
  obtain ⟨lS, ih1⟩ := bD.gB k
  refine ⟨?_, ?_⟩
  ·intro y0 y1 y2 y3
   unfold bD.j0
   repeat' (with_reducible first | exact lS _ _ _ _ | exact ih1 _ _ _ _ _ | exact dH.mono _ _ _ _ _ _ _ _ _ _ | exact dO.refl _ | exact dO.none _ | refine dO.ite ?_ ?_ | refine dO.bind ?_ (fun _ => ?_))
  ·intro y0 y1 y2 y3 y4
   unfold bD.l0
   repeat' (with_reducible first | exact lS _ _ _ _ | exact ih1 _ _ _ _ _ | exact dH.mono _ _ _ _ _ _ _ _ _ _ | exact dO.refl _ | exact dO.none _ | refine dO.ite ?_ ?_ | refine dO.bind ?_ (fun _ => ?_))
theorem bD.mono : ∀ a0 a1 a2 a3 k, dO (bD.f k a0 a1 a2 a3) (bD.f (k + 1) a0 a1 a2 a3) := by
 (intro a0 a1 a2 a3 k); (obtain ⟨lS, ih1⟩ := bD.gB k); (unfold bD.f)
 repeat' (with_reducible first | exact lS _ _ _ _ | exact ih1 _ _ _ _ _ | exact dH.mono _ _ _ _ _ _ _ _ _ _ | exact dO.refl _ | exact dO.none _ | refine dO.ite ?_ ?_ | refine dO.bind ?_ (fun _ => ?_))
set_option maxHeartbeats 8000000 in
set_option maxRecDepth 100000 in
theorem bD.calls (k : Nat) (A0 : Option Addr) (c0 : Nat) (l0 : List (bC)) (a1 : ByteArray) (a2 : ByteArray) (a3 : Bool) (r1 : ByteArray) (r2 : Bool) (w : World) (hr0 : Kd.C k46 w A0 l0.length l0) (hc0 : l0.length ≤ c0) (h : bD.f k l0 a1 a2 a3 = some (r1, r2)) :
  Calls Try.prog 50 #[.slice A0 l0.length c0, .string a1, .string a2, .bool a3] w fun e w' => e = .returned (.tuple #[.string r1, .bool r2]) ∧ Below w.heap.size w w' := by
 (have vU := Try.underlying46); (have HR0 := ah.mk hr0); (have QK := ah.mk hc0); (clear hr0 hc0); (have HB := ah.mk (Below.refl w.heap.size w)); (have H : (if a3 = true then (bD.j0 k l0 a1 a2 a3) else (bD.j0 k l0 a1 (⟨#[]⟩ : ByteArray) a3)) = some (r1, r2) := h); (clear h); (have HC5 := ah.mk H); (clear H); (go_enter Try.func50, Try.ntmps50); (go_upto_if 12 with (fail)); (go_cut [2] (fun v2 wc => ∃ (kq : Nat) (O7 : ByteArray), v2 = .string O7 ∧ ah (bD.j0 kq l0 a1 O7 a3 = some (r1, r2)) ∧ ah (kq ≤ k) ∧ ah (Below w.heap.size w wc)))
 case first =>
  (have H := HC5.out); (clear HC5); (by_cases c6 : a3 = true)
  ·subst c6
   (have H1 : (bD.j0 k l0 a1 a2 true) = some (r1, r2) := by rw [if_pos rfl] at H; exact H); (clear H); (have H := H1); (clear H1); (have H' := ah.mk H); (clear H); (go_wp2); (go_meet)
   case rel => exact ⟨_, (a2), (by first | rfl | (simp; done) | (simp [*]; done)), H', ⟨by first | omega | exact Nat.le_refl _⟩, ⟨WW⟩⟩
  ·replace c6 := Bool.eq_false_iff.mpr c6
   (subst c6); (have H1 : (bD.j0 k l0 a1 (⟨#[]⟩ : ByteArray) false) = some (r1, r2) := by rw [if_neg (show ¬ (false = true) by decide)] at H; exact H); (clear H); (have H := H1); (clear H1); (have H' := ah.mk H); (clear H); (go_wp2); (go_meet)
   case rel => exact ⟨_, ((⟨#[]⟩ : ByteArray)), (by first | rfl | (simp; done) | (simp [*]; done)), H', ⟨by first | omega | exact Nat.le_refl _⟩, ⟨WW⟩⟩
 case rest =>
  (clear HC5); (try clear p2); (try clear c5); (try clear c6); (obtain ⟨kq, O7, rfl, HA, HJ4, HB⟩ := hcut)
  cases kq with
  | zero => exact absurd HA.out (by simp [bD.j0])
  | succ RZ =>
   (have H := HA.out); (clear HA); (simp only [bD.j0] at H); (have H' := ah.mk H); (clear H); (go_wp2); (go_loopg [2, 3, 10] RZ (fun kq v2 v3 v10 w' => ∃ (alD : ByteArray) (alE : Bool) (rC : Int), v2 = .string alD ∧ v3 = .bool alE ∧ v10 = .int .i64 rC ∧ ah (bD.l0 kq l0 a1 alD alE rC = some (r1, r2)) ∧ ah (kq ≤ RZ) ∧ ah (Below w.heap.size w w')))
   case atStart => exact ⟨(O7), (a3), (0), (by first | rfl | (simp; done) | (simp [*]; done)), (by first | rfl | (simp; done) | (simp [*]; done)), (by first | rfl | (simp; done) | (simp [*]; done)), H', ⟨Nat.le_refl _⟩, ⟨WW⟩⟩
   case round =>
    (clear H'); (try clear p2); (try clear c5); (try clear c6); (try clear p2); (obtain ⟨alD, alE, rC, rfl, rfl, rfl, HA, Ic, HB⟩ := hrel)
    cases gk with
    | zero => exact absurd HA.out (by simp [bD.l0])
    | succ k2 =>
     (have H := HA.out); (clear HA); (simp only [bD.l0] at H); (by_cases c7 : rC < (l0.length : Int))
     ·rw [if_pos c7] at H
      (have FP : decide (rC < (l0.length : Int)) = true := decide_eq_true c7); (clear c7); (by_cases c8 : 0 ≤ rC)
      ·rw [if_pos c8] at H
       (have T_ : decide (0 ≤ rC) = true := decide_eq_true c8); (clear c8); (replace H := Option.bind_eq_some_iff.mp H); (obtain ⟨⟨aws, awt⟩, TV, H⟩ := H); (replace H : (bD.l0 k2 l0 a1 aws awt (wrap64 (rC + 1))) = some (r1, r2) := H); (have A9 := ah.mk TV); (clear TV); (have H' := ah.mk H); (clear H); (have awu : 0 ≤ (rC : Int) := of_decide_eq_true (by first | (with_reducible assumption) | assumption)); (have awv : rC < (l0.length : Int) := of_decide_eq_true (by first | (with_reducible assumption) | assumption)); (obtain ⟨aOT, aMO, agY, agZ, ag0, ag1, ag2, ag3⟩ := gJ HR0.out rC awu awv); (cases aMO); (replace agY := gq HB agY); (replace agZ := gq HB agZ); (replace ag0 := gq HB ag0); (replace ag1 := gq HB ag1); (replace ag2 := gq HB ag2)
       (replace ag3 := gq HB ag3); (replace awu := eq_true awu); (replace awv := eq_true awv)
       (go_wp2_with (first | ((with_reducible refine aH (f := 105) rfl ?_); refine dD (some 27) rfl rfl Try.func105 (by kernel_rfl) rfl #[.agg #[.int .u8 ((aj l0 rC).f0), .int .i64 ((aj l0 rC).f1), .string ((aj l0 rC).f2), .string ((aj l0 rC).f3), .string ((aj l0 rC).f4), .int .u64 ((aj l0 rC).f5)], .string a1, .string alD, .bool alE] rfl (by (try simp only [List.map_toArray, List.map_cons, List.map_nil]); first | done | rfl) ?_; (with_reducible refine (dH.calls k2 ((aj l0 rC).f0) ((aj l0 rC).f1) ((aj l0 rC).f2) ((aj l0 rC).f3) ((aj l0 rC).f4) ((aj l0 rC).f5) a1 alD alE aws awt _ A9.out).mono ?_); rintro e w10 ⟨rfl, hb⟩; refine ⟨_, rfl, ?_⟩; replace HB := ah.mk (ak (WW) hb); (try clear hb); (try clear hb2); (try clear hk); (try clear hi)))); (go_roundg k2)
       case measure => have := HJ4.out; have := Ic.out; omega
       case rel => exact ⟨(aws), (awt), (wrap64 (rC + 1)), (by first | rfl | (simp; done) | (simp [*]; done)), (by first | rfl | (simp; done) | (simp [*]; done)), (by first | rfl | (simp; done) | (simp [*]; done)), H', ⟨by have := HJ4.out; have := Ic.out; omega⟩, ⟨WW⟩⟩
      ·rw [if_neg c8] at H
       exact absurd H (by simp)
     ·rw [if_neg c7] at H
      (have FP : decide (rC < (l0.length : Int)) = false := decide_eq_false c7); (clear c7); (simp only [Option.some.injEq, Prod.mk.injEq] at H); (obtain ⟨rfl, rfl⟩ := H); (go_wp2); (go_ret2); (exact ⟨by first | rfl | (simp [*, bg, bn] <;> rfl), WW⟩)

end Go.Proofs.Ytnklnjghecmihaa.L2
