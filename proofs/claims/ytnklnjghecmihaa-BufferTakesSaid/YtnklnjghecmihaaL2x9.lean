/- tight -/ -- written by wip/myprint.py
import Derived.Test.YtnklnjghecmihaaL2x0
import Derived.Test.YtnklnjghecmihaaL2P0
import Derived.Test.YtnklnjghecmihaaL2x6
namespace Go.Proofs.Ytnklnjghecmihaa.L2
open Go.RowKit Go.Proofs.YtnklnjghecmihaaW aQ dV fP Mine
attribute [local go_sem] iM iO jk jl gW gX iP iQ iK iL dP dR dQ
set_option linter.unusedVariables false
set_option linter.unusedSimpArgs false
theorem qP {P : Prop} (h : P := by (with_reducible repeat first | exact HB.out | apply mG | apply ni | apply ny) <;> exact HB.out) : P := h
theorem amv {P : Prop} (h : P := by rintro w' ⟨s0, s1, s2, s3, s4, s5, s6, s7, s8, s9, s10, s11⟩; go_simp; with_reducible rfl) : P := h
theorem yS {P : Prop} (h : P := by exact ⟨(gq HB JI), (gq HB JJ), (gq HB JK), (gq HB JL), (gq HB JM), (gq HB JO), (gq HB JQ), (gq HB JR), (gq HB JU), (gq HB JV), (gq HB JW), (gq HB JX)⟩) : P := h
theorem aaE {P : Prop} (h : P := by simp only [sS, Act.put, List.setIfInBounds_toArray, List.set_cons_zero, List.set_cons_succ]) : P := h
theorem EI {P : Prop} (h : P := by (with_reducible repeat first | apply iR | apply iT | apply iJ); exact pF.out) : P := h
theorem CY {P : Prop} (h : P := by (with_reducible repeat first | exact HB.out | apply mG | apply ni | apply ny | refine jW ?_ xH.out) <;> exact HB.out) : P := h
theorem axm {P : Prop} (h : P := by exact ⟨((cell_far (p := ⟨jT, _, none⟩) (nb_ JI lJ) _).trans (((cell_far (p := ⟨jT, _, none⟩) (nb_ JI lJ) _).trans (hHeld.1)))), ((cell_far (p := ⟨jT, _, none⟩) (nb_ JJ lJ) _).trans (((cell_far (p := ⟨jT, _, none⟩) (nb_ JJ lJ) _).trans (hHeld.2.1)))), ((cell_far (p := ⟨jT, _, none⟩) (nb_ JK lJ) _).trans (((cell_far (p := ⟨jT, _, none⟩) (nb_ JK lJ) _).trans (hHeld.2.2.1)))), ((cell_far (p := ⟨jT, _, none⟩) (nb_ JL lJ) _).trans (((cell_far (p := ⟨jT, _, none⟩) (nb_ JL lJ) _).trans (hHeld.2.2.2.1)))), ((cell_far (p := ⟨jT, _, none⟩) (nb_ JM lJ) _).trans (((cell_far (p := ⟨jT, _, none⟩) (nb_ JM lJ) _).trans (hHeld.2.2.2.2.1)))), ((cell_far (p := ⟨jT, _, none⟩) (nb_ JO lJ) _).trans (((cell_far (p := ⟨jT, _, none⟩) (nb_ JO lJ) _).trans (hHeld.2.2.2.2.2.1)))), ((cell_far (p := ⟨jT, _, none⟩) (nb_ JQ lJ) _).trans (((cell_far (p := ⟨jT, _, none⟩) (nb_ JQ lJ) _).trans (hHeld.2.2.2.2.2.2.1)))), ((cell_far (p := ⟨jT, _, none⟩) (nb_ JR lJ) _).trans (((cell_far (p := ⟨jT, _, none⟩) (nb_ JR lJ) _).trans (hHeld.2.2.2.2.2.2.2.1)))), ((cell_far (p := ⟨jT, _, none⟩) (nb_ JU lJ) _).trans (((cell_far (p := ⟨jT, _, none⟩) (nb_ JU lJ) _).trans (hHeld.2.2.2.2.2.2.2.2.1)))), ((cell_far (p := ⟨jT, _, none⟩) (nb_ JV lJ) _).trans (((cell_far (p := ⟨jT, _, none⟩) (nb_ JV lJ) _).trans (hHeld.2.2.2.2.2.2.2.2.2.1)))), ((cell_far (p := ⟨jT, _, none⟩) (nb_ JW lJ) _).trans (((cell_far (p := ⟨jT, _, none⟩) (nb_ JW lJ) _).trans (hHeld.2.2.2.2.2.2.2.2.2.2.1)))), ((cell_far (p := ⟨jT, _, none⟩) (nb_ JX lJ) _).trans (((cell_far (p := ⟨jT, _, none⟩) (nb_ JX lJ) _).trans (hHeld.2.2.2.2.2.2.2.2.2.2.2))))⟩) : P := h
theorem axn {P : Prop} (h : P := by have := oh.out; have := HJ2.out; have := ai7.out; have := ahF.out; omega) : P := h

/-! ### catchmentref12_Right: function 25 -/
mutual
def au.l0 : Nat → List (bC) → Int → Option (Bool)
 | 0, _, _ => none
 | k + 1, x0, x3 => if x3 < (x0.length : Int) then (if 0 ≤ x3 then (if ((aj x0 x3).f0) < 1 then (au.j1 k x0 x3 true) else (au.j1 k x0 x3 (decide (((aj x0 x3).f0) > 4)))) else (none)) else (some true)
def au.j1 : Nat → List (bC) → Int → Bool → Option (Bool)
 | 0, _, _, _ => none
 | k + 1, x0, x3, x25 => if x25 = true then (some false) else (if 0 ≤ x3 then (if x3 < (x0.length : Int) then ((dK.f ((aj x0 x3).f0) ((aj x0 x3).f1) ((aj x0 x3).f2) ((aj x0 x3).f3) ((aj x0 x3).f4) ((aj x0 x3).f5)).bind fun aaF => ((gK.f aaF.1 aaF.2).bind fun t116 => (if t116 = true then (if x3 > 0 then (if 0 ≤ (wrap64 (x3 - 1)) then (if (wrap64 (x3 - 1)) < (x0.length : Int) then ((fU.f ((aj x0 (wrap64 (x3 - 1))).f0) ((aj x0 (wrap64 (x3 - 1))).f1) ((aj x0 (wrap64 (x3 - 1))).f2) ((aj x0 (wrap64 (x3 - 1))).f3) ((aj x0 (wrap64 (x3 - 1))).f4) ((aj x0 (wrap64 (x3 - 1))).f5) ((aj x0 x3).f0) ((aj x0 x3).f1) ((aj x0 x3).f2) ((aj x0 x3).f3) ((aj x0 x3).f4) ((aj x0 x3).f5)).bind fun t119 => (au.j2 k x0 x3 (!t119))) else (none)) else (none)) else (au.j2 k x0 x3 false)) else (some false)))) else (none)) else (none))
def au.j2 : Nat → List (bC) → Int → Bool → Option (Bool)
 | 0, _, _, _ => none
 | k + 1, x0, x3, x47 => if x47 = true then (some false) else (if x3 > 0 then (if 0 ≤ (wrap64 (x3 - 1)) then (if (wrap64 (x3 - 1)) < (x0.length : Int) then (if 0 ≤ x3 then (if x3 < (x0.length : Int) then (au.j3 k x0 x3 (((aj x0 (wrap64 (x3 - 1))).f1) == ((aj x0 x3).f1))) else (none)) else (none)) else (none)) else (none)) else (au.j3 k x0 x3 false))
def au.j3 : Nat → List (bC) → Int → Bool → Option (Bool)
 | 0, _, _, _ => none
 | k + 1, x0, x3, x63 => if x63 = true then (if 0 ≤ (wrap64 (x3 - 1)) then (if (wrap64 (x3 - 1)) < (x0.length : Int) then ((dK.f ((aj x0 (wrap64 (x3 - 1))).f0) ((aj x0 (wrap64 (x3 - 1))).f1) ((aj x0 (wrap64 (x3 - 1))).f2) ((aj x0 (wrap64 (x3 - 1))).f3) ((aj x0 (wrap64 (x3 - 1))).f4) ((aj x0 (wrap64 (x3 - 1))).f5)).bind fun Qg => (if 0 ≤ x3 then (if x3 < (x0.length : Int) then ((dK.f ((aj x0 x3).f0) ((aj x0 x3).f1) ((aj x0 x3).f2) ((aj x0 x3).f3) ((aj x0 x3).f4) ((aj x0 x3).f5)).bind fun IC => ((bW.f Qg.1 Qg.2 IC.1 IC.2).bind fun Ns => (if Ns.2.2 = true then (some false) else (au.l0 k x0 (wrap64 (x3 + 1)))))) else (none)) else (none))) else (none)) else (none)) else (au.l0 k x0 (wrap64 (x3 + 1)))
end
def au.f (k : Nat) (l0 : List (bC)) : Option (Bool) := au.l0 k l0 0
theorem au.gB : ∀ k, (∀ y0 y1, dO (au.l0 k y0 y1) (au.l0 (k + 1) y0 y1)) ∧ (∀ y0 y1 y2, dO (au.j1 k y0 y1 y2) (au.j1 (k + 1) y0 y1 y2)) ∧ (∀ y0 y1 y2, dO (au.j2 k y0 y1 y2) (au.j2 (k + 1) y0 y1 y2)) ∧ (∀ y0 y1 y2, dO (au.j3 k y0 y1 y2) (au.j3 (k + 1) y0 y1 y2))
 | 0 => ⟨fun _ _ r h => by simp [au.l0] at h, fun _ _ _ r h => by simp [au.j1] at h, fun _ _ _ r h => by simp [au.j2] at h, fun _ _ _ r h => by simp [au.j3] at h⟩
 | k + 1 => by
  obtain ⟨lS, ih1, ih2, ih3⟩ := au.gB k
  refine ⟨?_, ?_, ?_, ?_⟩
  ·intro y0 y1
   unfold au.l0
   repeat' (with_reducible first | exact lS _ _ | exact ih1 _ _ _ | exact ih2 _ _ _ | exact ih3 _ _ _ | exact dO.refl _ | exact dO.none _ | refine dO.ite ?_ ?_ | refine dO.bind ?_ (fun _ => ?_))
  ·intro y0 y1 y2
   unfold au.j1
   repeat' (with_reducible first | exact lS _ _ | exact ih1 _ _ _ | exact ih2 _ _ _ | exact ih3 _ _ _ | exact dO.refl _ | exact dO.none _ | refine dO.ite ?_ ?_ | refine dO.bind ?_ (fun _ => ?_))
  ·intro y0 y1 y2
   unfold au.j2
   repeat' (with_reducible first | exact lS _ _ | exact ih1 _ _ _ | exact ih2 _ _ _ | exact ih3 _ _ _ | exact dO.refl _ | exact dO.none _ | refine dO.ite ?_ ?_ | refine dO.bind ?_ (fun _ => ?_))
  ·intro y0 y1 y2
   unfold au.j3
   repeat' (with_reducible first | exact lS _ _ | exact ih1 _ _ _ | exact ih2 _ _ _ | exact ih3 _ _ _ | exact dO.refl _ | exact dO.none _ | refine dO.ite ?_ ?_ | refine dO.bind ?_ (fun _ => ?_))
theorem au.mono : ∀ a0 k, dO (au.f k a0) (au.f (k + 1) a0) := by
 (intro a0 k); (obtain ⟨lS, ih1, ih2, ih3⟩ := au.gB k); (unfold au.f)
 repeat' (with_reducible first | exact lS _ _ | exact ih1 _ _ _ | exact ih2 _ _ _ | exact ih3 _ _ _ | exact dO.refl _ | exact dO.none _ | refine dO.ite ?_ ?_ | refine dO.bind ?_ (fun _ => ?_))
def au.T8 : Bool × List (List Nat × List Nat) := (true, [([], []), ([0], [0]), ([1], [1]), ([2], [2]), ([2], [2]), ([4, 2], [2, 4]), ([3, 5, 2], [2, 3, 5]), ([6, 2], [2, 6]), ([2], [2]), ([2], [2]), ([8, 9, 2], [2, 8, 9]), ([10, 2], [2, 10]), ([7, 11, 2, 2], [2, 7, 11]), ([12, 2], [2, 12]), ([2, 13], [2, 13])])
def au.B8 : List Nat := [0, 1, 3, 7, 7, 23, 63, 127, 7, 7, 775, 1799, 4095, 8191, 16383]
theorem au.axo : nX .any (opsOf Try.f25 8) = au.T8 := by kernel_rfl
theorem au.aqR : kH au.T8.2 au.B8 = true := by kernel_rfl
def au.T10 : Bool × List (List Nat × List Nat) := (true, [([], []), ([0], [0]), ([1], [1]), ([2], [2]), ([2], [2]), ([4, 2], [2, 4]), ([3, 5, 2], [2, 3, 5]), ([6, 2], [2, 6]), ([7, 2], [2, 7]), ([2], [2]), ([2], [2]), ([9, 10, 2], [2, 9, 10]), ([11, 2], [2, 11]), ([12, 2], [2, 12]), ([8, 13, 2], [2, 8, 13]), ([2, 14], [2, 14])])
def au.B10 : List Nat := [0, 1, 3, 7, 7, 23, 63, 127, 255, 7, 7, 1543, 3591, 7687, 16383, 32767]
theorem au.aqS : nX .any (opsOf Try.f25 10) = au.T10 := by kernel_rfl
theorem au.ai8 : kH au.T10.2 au.B10 = true := by kernel_rfl
def au.T11 : Bool × List (List Nat × List Nat) := (true, [([], []), ([], []), ([1], [1]), ([0, 2], [0, 2]), ([3], [3]), ([4], [4]), ([], []), ([], []), ([6, 7], [6, 7]), ([8], [8]), ([9, 5], [9]), ([5, 10, 10], [5, 10]), ([11], [11]), ([12], [12]), ([12], [12]), ([], []), ([15, 13, 11, 0, 1, 2, 3, 4, 5, 6, 7, 8, 9, 10, 11, 12, 13, 15], [13, 15]), ([14, 16, 0, 1, 2, 3, 4, 5, 6, 7, 8, 9, 10, 11, 12, 13, 14, 15, 16], [14])])
def au.B11 : List Nat := [0, 0, 2, 7, 15, 31, 0, 0, 192, 448, 1023, 2047, 4095, 8191, 8191, 0, 49151, 131071]
theorem au.aeF : nX .any (opsOf Try.f25 11) = au.T11 := by kernel_rfl
theorem au.X5 : kH au.T11.2 au.B11 = true := by kernel_rfl
set_option maxHeartbeats 8000000 in
set_option maxRecDepth 100000 in
theorem au.calls (k : Nat) (A0 : Option Addr) (c0 : Nat) (l0 : List (bC)) (r : Bool) (w : World) (hr0 : Kd.C k46 w A0 l0.length l0) (hc0 : l0.length ≤ c0) (h : au.f k l0 = some r) :
  Calls Try.prog 25 #[.slice A0 l0.length c0] w fun e w' => e = .returned (.bool r) ∧ Below w.heap.size w w' := by
 (have vU := Try.underlying46); (have H_ := Try.underlying48); (have HR0 := ah.mk hr0); (have QK := ah.mk hc0); (clear hr0 hc0); (have HB := ah.mk (Below.refl w.heap.size w)); (have H : (au.l0 k l0 0) = some r := h); (clear h); (have H' := ah.mk H); (clear H); (go_enter Try.func25, Try.ntmps25); (go_wp2); (go_loopg [3] k (fun kq v3 w' => ∃ (aV : Int), v3 = .int .i64 aV ∧ ah (au.l0 kq l0 aV = some r) ∧ ah (kq ≤ k) ∧ ah (Below w.heap.size w w')))
 case atStart => exact ⟨(0), (by first | rfl | (simp; done) | (simp [*]; done)), H', ⟨Nat.le_refl _⟩, ⟨qP⟩⟩
 case round =>
  (clear H'); (obtain ⟨aV, rfl, HA, oh, HB⟩ := hrel)
  cases gk with
  | zero => exact absurd HA.out (by simp [au.l0])
  | succ k1 =>
   (have H := HA.out); (clear HA); (simp only [au.l0] at H); (by_cases c2 : aV < (l0.length : Int))
   ·rw [if_pos c2] at H
    (have zo : decide (aV < (l0.length : Int)) = true := decide_eq_true c2); (clear c2); (have X6 := ah.mk H); (clear H); (go_upto_region 4 with (fail)); (go_cut [25] (fun v25 wc => ∃ (kq : Nat) (aeG : Bool), v25 = .bool aeG ∧ ah (au.j1 kq l0 aV aeG = some r) ∧ ah (kq ≤ k1) ∧ ah (Below w.heap.size w wc)))
    case first =>
     (have H := X6.out); (clear X6); (by_cases c4 : 0 ≤ aV)
     ·rw [if_pos c4] at H
      (have uG : decide (0 ≤ aV) = true := decide_eq_true c4); (clear c4); ((first | rw [uG] | (simp only [dM, eu]; rw [uG]) | skip)); (by_cases c5 : ((aj l0 aV).f0) < 1)
      ·rw [if_pos c5] at H
       (have zU : decide (((aj l0 aV).f0) < 1) = true := decide_eq_true c5); (clear c5); (have H' := ah.mk H); (clear H); (have Vx : 0 ≤ (aV : Int) := of_decide_eq_true (by first | (with_reducible assumption) | assumption)); (have Vy : aV < (l0.length : Int) := of_decide_eq_true (by first | (with_reducible assumption) | assumption)); (obtain ⟨aqT, aub, Dl, Dn, Dp, Dq, Dt, Du⟩ := gJ HR0.out aV Vx Vy); (cases aub); (replace Dl := gq HB Dl); (replace Dn := gq HB Dn); (replace Dp := gq HB Dp); (replace Dq := gq HB Dq); (replace Dt := gq HB Dt); (replace Du := gq HB Du); (replace Vx := eq_true Vx); (replace Vy := eq_true Vy); (go_wp2); (go_meet)
       case rel => exact ⟨_, (true), (by first | rfl | (simp; done) | (simp [*]; done)), H', ⟨by have := oh.out; first | omega | exact Nat.le_refl _⟩, ⟨qP⟩⟩
      ·rw [if_neg c5] at H
       (have zU : decide (((aj l0 aV).f0) < 1) = false := decide_eq_false c5); (clear c5); (have H' := ah.mk H); (clear H); (have Vx : 0 ≤ (aV : Int) := of_decide_eq_true (by first | (with_reducible assumption) | assumption)); (have Vy : aV < (l0.length : Int) := of_decide_eq_true (by first | (with_reducible assumption) | assumption)); (obtain ⟨aqT, aub, Dl, Dn, Dp, Dq, Dt, Du⟩ := gJ HR0.out aV Vx Vy); (cases aub); (replace Dl := gq HB Dl); (replace Dn := gq HB Dn); (replace Dp := gq HB Dp); (replace Dq := gq HB Dq); (replace Dt := gq HB Dt); (replace Du := gq HB Du); (replace Vx := eq_true Vx); (replace Vy := eq_true Vy); (have ahG : 0 ≤ (aV : Int) := of_decide_eq_true (by first | (with_reducible assumption) | assumption))
       (have ahH : aV < (l0.length : Int) := of_decide_eq_true (by first | (with_reducible assumption) | assumption)); (obtain ⟨axp, aJ0, Nu, Nv, Nw, Ny, Nz, NC⟩ := gJ HR0.out aV ahG ahH); (obtain rfl : aqT = axp := (by injection aJ0)); (replace Nu := gq HB Nu); (replace Nv := gq HB Nv); (replace Nw := gq HB Nw); (replace Ny := gq HB Ny); (replace Nz := gq HB Nz); (replace NC := gq HB NC); (replace ahG := eq_true ahG); (replace ahH := eq_true ahH); (go_wp2); (go_meet)
       case rel => exact ⟨_, (decide (((aj l0 aV).f0) > 4)), (by first | rfl | (simp; done) | (simp [*]; done)), H', ⟨by have := oh.out; first | omega | exact Nat.le_refl _⟩, ⟨qP⟩⟩
     ·rw [if_neg c4] at H
      exact absurd H (by simp)
    case rest =>
     (clear X6); (try clear p1); (try clear q1); (try clear hx1); (try clear c2); (try clear zo); (try clear p2); (try clear c4); (try clear uG); (try clear c5); (try clear zU); (try clear Dl); (try clear Dn); (try clear Dp); (try clear Dq); (try clear Dt); (try clear Du); (try clear Nu); (try clear Nv); (try clear Nw); (try clear Ny); (try clear Nz); (try clear NC); (try clear Vx); (try clear ahG); (try clear Vy); (try clear ahH); (obtain ⟨kq, aeG, rfl, HA, HJ2, HB⟩ := hcut)
     cases kq with
     | zero => exact absurd HA.out (by simp [au.j1])
     | succ IE =>
      (have H := HA.out); (clear HA); (simp only [au.j1] at H); (by_cases c6 : aeG = true)
      ·subst c6
       (have H1 : (some false) = some r := by rw [if_pos rfl] at H; exact H); (clear H); (have H := H1); (clear H1); (obtain rfl := Option.some.inj H); (go_wp2); (go_ret); (exact ⟨by first | rfl | (simp [*, bg, bn] <;> rfl), qP⟩)
      ·replace c6 := Bool.eq_false_iff.mpr c6
       (subst c6); (have H1 : (if 0 ≤ aV then (if aV < (l0.length : Int) then ((dK.f ((aj l0 aV).f0) ((aj l0 aV).f1) ((aj l0 aV).f2) ((aj l0 aV).f3) ((aj l0 aV).f4) ((aj l0 aV).f5)).bind fun aaF => ((gK.f aaF.1 aaF.2).bind fun t116 => (if t116 = true then (if aV > 0 then (if 0 ≤ (wrap64 (aV - 1)) then (if (wrap64 (aV - 1)) < (l0.length : Int) then ((fU.f ((aj l0 (wrap64 (aV - 1))).f0) ((aj l0 (wrap64 (aV - 1))).f1) ((aj l0 (wrap64 (aV - 1))).f2) ((aj l0 (wrap64 (aV - 1))).f3) ((aj l0 (wrap64 (aV - 1))).f4) ((aj l0 (wrap64 (aV - 1))).f5) ((aj l0 aV).f0) ((aj l0 aV).f1) ((aj l0 aV).f2) ((aj l0 aV).f3) ((aj l0 aV).f4) ((aj l0 aV).f5)).bind fun t119 => (au.j2 IE l0 aV (!t119))) else (none)) else (none)) else (au.j2 IE l0 aV false)) else (some false)))) else (none)) else (none)) = some r := by rw [if_neg (show ¬ (false = true) by decide)] at H; exact H); (clear H); (have H := H1); (clear H1); (by_cases c7 : 0 ≤ aV)
       ·rw [if_pos c7] at H
        (have FP : decide (0 ≤ aV) = true := decide_eq_true c7); (clear c7); (by_cases c8 : aV < (l0.length : Int))
        ·rw [if_pos c8] at H
         (have T_ : decide (aV < (l0.length : Int)) = true := decide_eq_true c8); (clear c8); (replace H := Option.bind_eq_some_iff.mp H); (obtain ⟨⟨acz, acA⟩, TV, H⟩ := H); (replace H : ((gK.f acz acA).bind fun t116 => (if t116 = true then (if aV > 0 then (if 0 ≤ (wrap64 (aV - 1)) then (if (wrap64 (aV - 1)) < (l0.length : Int) then ((fU.f ((aj l0 (wrap64 (aV - 1))).f0) ((aj l0 (wrap64 (aV - 1))).f1) ((aj l0 (wrap64 (aV - 1))).f2) ((aj l0 (wrap64 (aV - 1))).f3) ((aj l0 (wrap64 (aV - 1))).f4) ((aj l0 (wrap64 (aV - 1))).f5) ((aj l0 aV).f0) ((aj l0 aV).f1) ((aj l0 aV).f2) ((aj l0 aV).f3) ((aj l0 aV).f4) ((aj l0 aV).f5)).bind fun t119 => (au.j2 IE l0 aV (!t119))) else (none)) else (none)) else (au.j2 IE l0 aV false)) else (some false))) = some r := H); (have A9 := ah.mk TV); (clear TV); (replace H := Option.bind_eq_some_iff.mp H); (obtain ⟨t116, ai9, H⟩ := H)
         (replace H : (if t116 = true then (if aV > 0 then (if 0 ≤ (wrap64 (aV - 1)) then (if (wrap64 (aV - 1)) < (l0.length : Int) then ((fU.f ((aj l0 (wrap64 (aV - 1))).f0) ((aj l0 (wrap64 (aV - 1))).f1) ((aj l0 (wrap64 (aV - 1))).f2) ((aj l0 (wrap64 (aV - 1))).f3) ((aj l0 (wrap64 (aV - 1))).f4) ((aj l0 (wrap64 (aV - 1))).f5) ((aj l0 aV).f0) ((aj l0 aV).f1) ((aj l0 aV).f2) ((aj l0 aV).f3) ((aj l0 aV).f4) ((aj l0 aV).f5)).bind fun t119 => (au.j2 IE l0 aV (!t119))) else (none)) else (none)) else (au.j2 IE l0 aV false)) else (some false)) = some r := H); (have A10 := ah.mk ai9); (clear ai9); (by_cases c11 : t116 = true)
         ·subst c11
          (have H1 : (if aV > 0 then (if 0 ≤ (wrap64 (aV - 1)) then (if (wrap64 (aV - 1)) < (l0.length : Int) then ((fU.f ((aj l0 (wrap64 (aV - 1))).f0) ((aj l0 (wrap64 (aV - 1))).f1) ((aj l0 (wrap64 (aV - 1))).f2) ((aj l0 (wrap64 (aV - 1))).f3) ((aj l0 (wrap64 (aV - 1))).f4) ((aj l0 (wrap64 (aV - 1))).f5) ((aj l0 aV).f0) ((aj l0 aV).f1) ((aj l0 aV).f2) ((aj l0 aV).f3) ((aj l0 aV).f4) ((aj l0 aV).f5)).bind fun t119 => (au.j2 IE l0 aV (!t119))) else (none)) else (none)) else (au.j2 IE l0 aV false)) = some r := by rw [if_pos rfl] at H; exact H); (clear H); (have H := H1); (clear H1); (have auc := ah.mk H); (clear H); (have X7 : 0 ≤ (aV : Int) := of_decide_eq_true (by first | (with_reducible assumption) | assumption)); (have X8 : aV < (l0.length : Int) := of_decide_eq_true (by first | (with_reducible assumption) | assumption)); (obtain ⟨dN, aud, FQ, FT, FU, FV, FW, FX⟩ := gJ HR0.out aV X7 X8); (cases aud); (replace FQ := gq HB FQ)
          (replace FT := gq HB FT); (replace FU := gq HB FU); (replace FV := gq HB FV); (replace FW := gq HB FW); (replace FX := gq HB FX); (replace X7 := eq_true X7); (replace X8 := eq_true X8)
          go_upto_region 8 with (first | ((with_reducible refine aH (f := 60) rfl ?_); refine dD (some 30) rfl rfl Try.func60 (by kernel_rfl) rfl #[.agg #[.int .u8 ((aj l0 aV).f0), .int .i64 ((aj l0 aV).f1), .string ((aj l0 aV).f2), .string ((aj l0 aV).f3), .string ((aj l0 aV).f4), .int .u64 ((aj l0 aV).f5)]] rfl (by (try simp only [List.map_toArray, List.map_cons, List.map_nil]); first | done | rfl) ?_; (with_reducible refine (dK.calls ((aj l0 aV).f0) ((aj l0 aV).f1) ((aj l0 aV).f2) ((aj l0 aV).f3) ((aj l0 aV).f4) ((aj l0 aV).f5) acz acA _ A9.out).mono ?_); rintro e w13 ⟨rfl, hb⟩; refine ⟨_, rfl, ?_⟩; replace HB := ah.mk (ak (qP) hb); (try clear hb); (try clear hb2); (try clear hk); (try clear hi)) | ((with_reducible refine aH (f := 52) rfl ?_); refine dD (some 31) rfl rfl Try.func52 (by kernel_rfl) rfl #[.agg #[.string acz, .string acA]] rfl (by (try simp only [List.map_toArray, List.map_cons, List.map_nil]); first | done | rfl) ?_; (with_reducible refine (gK.calls acz acA true _ A10.out).mono ?_); rintro e TY ⟨rfl, hb⟩; refine ⟨_, rfl, ?_⟩; replace HB := ah.mk (ak (qP) hb); (try clear hb); (try clear hb2); (try clear hk); (try clear hi)))
          ((try simp only [Act.put, List.setIfInBounds_toArray, List.set_cons_zero, List.set_cons_succ])); (go_cut [47] (fun v47 wc => ∃ (kq : Nat) (X9 : Bool), v47 = .bool X9 ∧ ah (au.j2 kq l0 aV X9 = some r) ∧ ah (kq ≤ IE) ∧ ah (Below w.heap.size w wc)))
          case first =>
           (have H := auc.out); (clear auc); (by_cases c15 : aV > 0)
           ·rw [if_pos c15] at H
            (have IG : decide (0 < aV) = true := decide_eq_true c15); (clear c15); ((first | rw [IG] | (simp only [dM, eu]; rw [IG]) | skip)); (obtain ⟨pX, aeH⟩ : ∃ j_ : Int, (wrap64 (aV - 1)) = j_ := ⟨_, rfl⟩); (replace H : (if 0 ≤ (pX) then (if (pX) < (l0.length : Int) then ((fU.f ((aj l0 (pX)).f0) ((aj l0 (pX)).f1) ((aj l0 (pX)).f2) ((aj l0 (pX)).f3) ((aj l0 (pX)).f4) ((aj l0 (pX)).f5) ((aj l0 aV).f0) ((aj l0 aV).f1) ((aj l0 aV).f2) ((aj l0 aV).f3) ((aj l0 aV).f4) ((aj l0 aV).f5)).bind fun t119 => (au.j2 IE l0 aV (!t119))) else (none)) else (none)) = some r := by first | (rw [aeH] at H; exact H) | (simp only [aeH] at H ⊢; exact H)); (have aJ1 : (IntKind.i64.wrap (aV - 1)) = pX := (dM _).trans aeH); (by_cases c17 : 0 ≤ (pX))
            ·rw [if_pos c17] at H
             (have ai_ : decide (0 ≤ (pX)) = true := decide_eq_true c17); (clear c17); (by_cases c18 : (pX) < (l0.length : Int))
             ·rw [if_pos c18] at H
              (have aqU : decide ((pX) < (l0.length : Int)) = true := decide_eq_true c18); (clear c18); (replace H := Option.bind_eq_some_iff.mp H); (obtain ⟨t119, axq, H⟩ := H); (replace H : (au.j2 IE l0 aV (!t119)) = some r := H); (have A19 := ah.mk axq); (clear axq); (have H' := ah.mk H); (clear H); (try go_wp2); (replace HB := ah.mk (fB HB.out)); (have aja : 0 ≤ ((pX) : Int) := of_decide_eq_true (by first | (with_reducible assumption) | assumption)); (have ajb : (pX) < (l0.length : Int) := of_decide_eq_true (by first | (with_reducible assumption) | assumption)); (obtain ⟨axr, e117, JY, JZ, J3, J4, J5, J6⟩ := gJ HR0.out (pX) aja ajb); (have aeI := J6); (have aeJ := J5); (have aeK := J4); (have aeL := J3); (have aeM := JZ); (have aeN := JY); (obtain rfl : dN = axr := (by injection e117)); (replace JY := gq HB JY); (replace JZ := gq HB JZ)
              (replace J3 := gq HB J3); (replace J4 := gq HB J4); (replace J5 := gq HB J5); (replace J6 := gq HB J6); (replace aja := eq_true aja); (replace ajb := eq_true ajb); (have ajc : 0 ≤ (aV : Int) := of_decide_eq_true (by first | (with_reducible assumption) | assumption)); (have ajd : aV < (l0.length : Int) := of_decide_eq_true (by first | (with_reducible assumption) | assumption)); (obtain ⟨axt, e118, J7, J8, J9, J_, Ko, Kq⟩ := gJ HR0.out aV ajc ajd); (have aeO := Kq); (have aeP := Ko); (have aeQ := J_); (have aeR := J9); (have aeS := J8); (have aeT := J7); (obtain rfl : dN = axt := (by injection e118)); (replace J7 := gq HB J7); (replace J8 := gq HB J8)
              (replace J9 := gq HB J9); (replace J_ := gq HB J_); (replace Ko := gq HB Ko); (replace Kq := gq HB Kq); (replace ajc := eq_true ajc); (replace ajd := eq_true ajd)
              refine jP (n := 15) (S := fun w' => w'.cell? (dN.add (((pX)).toNat * 6)) = some (.int .u8 ((aj l0 (pX)).f0)) ∧ w'.cell? ⟨(dN.add (((pX)).toNat * 6)).block, (dN.add (((pX)).toNat * 6)).off + 1, none⟩ = some (.int .i64 ((aj l0 (pX)).f1)) ∧ w'.cell? ⟨(dN.add (((pX)).toNat * 6)).block, (dN.add (((pX)).toNat * 6)).off + 2, none⟩ = some (.string ((aj l0 (pX)).f2)) ∧ w'.cell? ⟨(dN.add (((pX)).toNat * 6)).block, (dN.add (((pX)).toNat * 6)).off + 3, none⟩ = some (.string ((aj l0 (pX)).f3)) ∧ w'.cell? ⟨(dN.add (((pX)).toNat * 6)).block, (dN.add (((pX)).toNat * 6)).off + 4, none⟩ = some (.string ((aj l0 (pX)).f4)) ∧ w'.cell? ⟨(dN.add (((pX)).toNat * 6)).block, (dN.add (((pX)).toNat * 6)).off + 5, none⟩ = some (.int .u64 ((aj l0 (pX)).f5)) ∧ w'.cell? (dN.add ((aV).toNat * 6)) = some (.int .u8 ((aj l0 aV).f0)) ∧ w'.cell? ⟨(dN.add ((aV).toNat * 6)).block, (dN.add ((aV).toNat * 6)).off + 1, none⟩ = some (.int .i64 ((aj l0 aV).f1)) ∧ w'.cell? ⟨(dN.add ((aV).toNat * 6)).block, (dN.add ((aV).toNat * 6)).off + 2, none⟩ = some (.string ((aj l0 aV).f2)) ∧ w'.cell? ⟨(dN.add ((aV).toNat * 6)).block, (dN.add ((aV).toNat * 6)).off + 3, none⟩ = some (.string ((aj l0 aV).f3)) ∧ w'.cell? ⟨(dN.add ((aV).toNat * 6)).block, (dN.add ((aV).toNat * 6)).off + 4, none⟩ = some (.string ((aj l0 aV).f4)) ∧ w'.cell? ⟨(dN.add ((aV).toNat * 6)).block, (dN.add ((aV).toNat * 6)).off + 5, none⟩ = some (.int .u64 ((aj l0 aV).f5))) (ds := []) #[false, false, false, false, false, false, false, false, false, false, false, false, false, false, false] (by kernel_rfl) rfl rfl ⟨(gq HB aeN), (gq HB aeM), (gq HB aeL), (gq HB aeK), (gq HB aeJ), (gq HB aeI), (gq HB aeT), (gq HB aeS), (gq HB aeR), (gq HB aeQ), (gq HB aeP), (gq HB aeO)⟩ (fun hHeld => ?_); refine gU au.axo au.aqR (fun bI mF => ?_)
              (generalize TY.drew = w20 at HB JY JZ J3 J4 J5 J6 J7 J8 J9 J_ Ko Kq hHeld ⊢); (refine gI 0 33 bI.out ?_)
              refine gI 1 34 bI.out ?_
              refine gI 2 35 bI.out ?_
              refine gI 3 36 bI.out ?_
              refine gI 4 37 bI.out ?_
              refine gI 5 38 bI.out ?_
              refine gI 6 39 bI.out ?_
              refine gI 8 41 bI.out ?_
              refine gI 9 42 bI.out ?_
              refine gI 10 43 bI.out ?_
              refine wZ 7 40 bI.out mF.out rfl hHeld (amv) ?_
              refine wZ 11 44 bI.out mF.out rfl hHeld (amv) ?_
              (refine kN (i := 12) (N := some 45) #[true, true, true, true, true, true, true, true, true, true, true, true, true, false, false] rfl rfl (gG bI.out (by kernel_rfl)) (by decide) (fun K hK => ?_)); (refine kD Try.func30 (by kernel_rfl) rfl #[.agg #[.int .u8 ((aj l0 (pX)).f0), .int .i64 ((aj l0 (pX)).f1), .string ((aj l0 (pX)).f2), .string ((aj l0 (pX)).f3), .string ((aj l0 (pX)).f4), .int .u64 ((aj l0 (pX)).f5)], .agg #[.int .u8 ((aj l0 aV).f0), .int .i64 ((aj l0 aV).f1), .string ((aj l0 aV).f2), .string ((aj l0 aV).f3), .string ((aj l0 aV).f4), .int .u64 ((aj l0 aV).f5)]] (by rfl) rfl rfl (by (try simp only [List.map_toArray, List.map_cons, List.map_nil]); first | done | (simp only [aeH]; rfl) | rfl | (simp only [List.length_drop, List.length_take]; rfl)) ?_)
              (with_reducible refine (fU.calls ((aj l0 (pX)).f0) ((aj l0 (pX)).f1) ((aj l0 (pX)).f2) ((aj l0 (pX)).f3) ((aj l0 (pX)).f4) ((aj l0 (pX)).f5) ((aj l0 aV).f0) ((aj l0 aV).f1) ((aj l0 aV).f2) ((aj l0 aV).f3) ((aj l0 aV).f4) ((aj l0 aV).f5) t119 _ A19.out).mono ?_); (rintro e w21 ⟨rfl, hb⟩); (refine ⟨_, rfl, ?_⟩); (replace HB := ah.mk (ak (qP) hb)); ((try clear hb)); ((try clear hb2)); ((try clear hk)); ((try clear hi))
              (refine hK.out _ _ ⟨(gq HB aeN), (gq HB aeM), (gq HB aeL), (gq HB aeK), (gq HB aeJ), (gq HB aeI), (gq HB aeT), (gq HB aeS), (gq HB aeR), (gq HB aeQ), (gq HB aeP), (gq HB aeO)⟩ (fun hHeld => ?_)); (clear hK K); (refine fC (a' := ?_) ?_ ?_)
              rotate_left
              ·show Act.put _ (some 45) _ = _
               (simp only [mM, mO, mP, mQ, dM, eu]); (rfl)
              refine gI 13 46 bI.out ?_
              refine gI 14 47 bI.out ?_
              (refine lU (jh bI.out (by kernel_rfl)) ?_); (try go_wp2); (go_meet)
              case rel => exact ⟨_, (!t119), (by first | rfl | (simp; done) | (simp [*]; done)), H', ⟨by have := oh.out; have := HJ2.out; first | omega | exact Nat.le_refl _⟩, ⟨qP⟩⟩
             ·rw [if_neg c18] at H
              exact absurd H (by simp)
            ·rw [if_neg c17] at H
             exact absurd H (by simp)
           ·rw [if_neg c15] at H
            (have IG : decide (0 < aV) = false := decide_eq_false c15); (clear c15); ((first | rw [IG] | (simp only [dM, eu]; rw [IG]) | skip)); (have H' := ah.mk H); (clear H); (try go_wp2); (replace HB := ah.mk (fB HB.out)); (refine jP (n := 15) (S := fun w' => True) (ds := []) #[false, false, false, false, false, false, false, false, false, false, false, false, false, false, false] (by kernel_rfl) rfl rfl trivial (fun hHeld => ?_); refine gU au.axo au.aqR (fun bI mF => ?_)); (generalize TY.drew = w22 at HB hHeld ⊢); (refine gI 0 33 bI.out ?_)
            refine gI 1 34 bI.out ?_
            refine gI 2 35 bI.out ?_
            refine oJ 3 36 bI.out ?_
            refine oJ 4 37 bI.out ?_
            refine oJ 5 38 bI.out ?_
            refine oJ 6 39 bI.out ?_
            refine oJ 7 40 bI.out ?_
            refine oJ 8 41 bI.out ?_
            refine oJ 9 42 bI.out ?_
            refine oJ 10 43 bI.out ?_
            refine oJ 11 44 bI.out ?_
            refine oJ 12 45 bI.out ?_
            refine oJ 13 46 bI.out ?_
            refine gI 14 47 bI.out ?_
            (refine lU (jh bI.out (by kernel_rfl)) ?_); (try go_wp2); (go_meet)
            case rel => exact ⟨_, (false), (by first | rfl | (simp; done) | (simp [*]; done)), H', ⟨by have := oh.out; have := HJ2.out; first | omega | exact Nat.le_refl _⟩, ⟨qP⟩⟩
          case rest =>
           (clear auc); (try clear c1); (try clear p1); (try clear q1); (try clear hx1); (try clear c2); (try clear zo); (try clear p2); (try clear c3); (try clear c4); (try clear uG); (try clear c5); (try clear zU); (try clear c6); (try clear p6); (try clear c7); (try clear FP); (try clear c8); (try clear T_); (try clear c11); (try clear p11); (try clear q11); (try clear aJ2); (try clear c15); (try clear IG); (try clear c17); (try clear ai_); (try clear c18); (try clear aqU); (try clear Dl); (try clear Dn); (try clear Dp); (try clear Dq); (try clear Dt); (try clear Du); (try clear Nu); (try clear Nv); (try clear Nw); (try clear Ny); (try clear Nz); (try clear NC); (try clear FQ); (try clear FT); (try clear FU); (try clear FV); (try clear FW); (try clear FX); (try clear JY); (try clear JZ); (try clear J3); (try clear J4); (try clear J5); (try clear J6); (try clear J7); (try clear J8); (try clear J9); (try clear J_); (try clear Ko); (try clear Kq); (try clear p1); (try clear Vx); (try clear ahG); (try clear X7)
           (try clear aja); (try clear ajc); (try clear p2); (try clear q1); (try clear Vy); (try clear ahH); (try clear X8); (try clear ajb); (try clear ajd); (obtain ⟨kq, X9, rfl, HA, ai7, HB⟩ := hcut)
           cases kq with
           | zero => exact absurd HA.out (by simp [au.j2])
           | succ amw =>
            (have H := HA.out); (clear HA); (simp only [au.j2] at H); (by_cases c23 : X9 = true)
            ·subst c23
             (have H1 : (some false) = some r := by rw [if_pos rfl] at H; exact H); (clear H); (have H := H1); (clear H1); (obtain rfl := Option.some.inj H); (go_wp2); (go_ret); (exact ⟨by first | rfl | (simp [*, bg, bn] <;> rfl), qP⟩)
            ·replace c23 := Bool.eq_false_iff.mpr c23
             (subst c23); (have H1 : (if aV > 0 then (if 0 ≤ (wrap64 (aV - 1)) then (if (wrap64 (aV - 1)) < (l0.length : Int) then (if 0 ≤ aV then (if aV < (l0.length : Int) then (au.j3 amw l0 aV (((aj l0 (wrap64 (aV - 1))).f1) == ((aj l0 aV).f1))) else (none)) else (none)) else (none)) else (none)) else (au.j3 amw l0 aV false)) = some r := by rw [if_neg (show ¬ (false = true) by decide)] at H; exact H); (clear H); (have H := H1); (clear H1); (have acB := ah.mk H); (clear H); (go_upto_region 10 with (fail)); (go_cut [63] (fun v63 wc => ∃ (kq : Nat) (X_ : Bool), v63 = .bool X_ ∧ ah (au.j3 kq l0 aV X_ = some r) ∧ ah (kq ≤ amw) ∧ ah (Below w.heap.size w wc)))
             case first =>
              (have H := acB.out); (clear acB); (by_cases c25 : aV > 0)
              ·rw [if_pos c25] at H
               (have ug : decide (0 < aV) = true := decide_eq_true c25); (clear c25); ((first | rw [ug] | (simp only [dM, eu]; rw [ug]) | skip)); (obtain ⟨gQ, Hq⟩ : ∃ j_ : Int, (wrap64 (aV - 1)) = j_ := ⟨_, rfl⟩); (replace H : (if 0 ≤ (gQ) then (if (gQ) < (l0.length : Int) then (if 0 ≤ aV then (if aV < (l0.length : Int) then (au.j3 amw l0 aV (((aj l0 (gQ)).f1) == ((aj l0 aV).f1))) else (none)) else (none)) else (none)) else (none)) = some r := by first | (rw [Hq] at H; exact H) | (simp only [Hq] at H ⊢; exact H)); (have aue : (IntKind.i64.wrap (aV - 1)) = gQ := (dM _).trans Hq); (by_cases Qh : 0 ≤ (gQ))
               ·rw [if_pos Qh] at H
                (have aqV : decide (0 ≤ (gQ)) = true := decide_eq_true Qh); (clear Qh); (by_cases c28 : (gQ) < (l0.length : Int))
                ·rw [if_pos c28] at H
                 (have aqW : decide ((gQ) < (l0.length : Int)) = true := decide_eq_true c28); (clear c28); (by_cases c29 : 0 ≤ aV)
                 ·rw [if_pos c29] at H
                  (have aqX : decide (0 ≤ aV) = true := decide_eq_true c29); (clear c29); (by_cases VY : aV < (l0.length : Int))
                  ·rw [if_pos VY] at H
                   (have aeU : decide (aV < (l0.length : Int)) = true := decide_eq_true VY); (clear VY); (have H' := ah.mk H); (clear H); (try go_wp2); (replace HB := ah.mk (fB HB.out)); (have amx : 0 ≤ ((gQ) : Int) := of_decide_eq_true (by first | (with_reducible assumption) | assumption)); (have amy : (gQ) < (l0.length : Int) := of_decide_eq_true (by first | (with_reducible assumption) | assumption)); (obtain ⟨axu, e120, ND, NG, NH, NI, NJ, NK⟩ := gJ HR0.out (gQ) amx amy); (have amz := NK); (have amA := NJ); (have amB := NI); (have amC := NH); (have amD := NG); (have amE := ND); (obtain rfl : dN = axu := (by injection e120)); (replace ND := gq HB ND); (replace NG := gq HB NG); (replace NH := gq HB NH); (replace NI := gq HB NI)
                   (replace NJ := gq HB NJ); (replace NK := gq HB NK); (replace amx := eq_true amx); (replace amy := eq_true amy); (have amF : 0 ≤ (aV : Int) := of_decide_eq_true (by first | (with_reducible assumption) | assumption)); (have amG : aV < (l0.length : Int) := of_decide_eq_true (by first | (with_reducible assumption) | assumption)); (obtain ⟨axv, aJ3, NM, NP, NQ, NR, NS, NT⟩ := gJ HR0.out aV amF amG); (have amH := NT); (have amI := NS); (have amJ := NR); (have amK := NQ); (have amL := NP); (have amM := NM); (obtain rfl : dN = axv := (by injection aJ3)); (replace NM := gq HB NM); (replace NP := gq HB NP); (replace NQ := gq HB NQ); (replace NR := gq HB NR)
                   (replace NS := gq HB NS); (replace NT := gq HB NT); (replace amF := eq_true amF); (replace amG := eq_true amG)
                   refine jP (n := 16) (S := fun w' => w'.cell? (dN.add (((gQ)).toNat * 6)) = some (.int .u8 ((aj l0 (gQ)).f0)) ∧ w'.cell? ⟨(dN.add (((gQ)).toNat * 6)).block, (dN.add (((gQ)).toNat * 6)).off + 1, none⟩ = some (.int .i64 ((aj l0 (gQ)).f1)) ∧ w'.cell? ⟨(dN.add (((gQ)).toNat * 6)).block, (dN.add (((gQ)).toNat * 6)).off + 2, none⟩ = some (.string ((aj l0 (gQ)).f2)) ∧ w'.cell? ⟨(dN.add (((gQ)).toNat * 6)).block, (dN.add (((gQ)).toNat * 6)).off + 3, none⟩ = some (.string ((aj l0 (gQ)).f3)) ∧ w'.cell? ⟨(dN.add (((gQ)).toNat * 6)).block, (dN.add (((gQ)).toNat * 6)).off + 4, none⟩ = some (.string ((aj l0 (gQ)).f4)) ∧ w'.cell? ⟨(dN.add (((gQ)).toNat * 6)).block, (dN.add (((gQ)).toNat * 6)).off + 5, none⟩ = some (.int .u64 ((aj l0 (gQ)).f5)) ∧ w'.cell? (dN.add ((aV).toNat * 6)) = some (.int .u8 ((aj l0 aV).f0)) ∧ w'.cell? ⟨(dN.add ((aV).toNat * 6)).block, (dN.add ((aV).toNat * 6)).off + 1, none⟩ = some (.int .i64 ((aj l0 aV).f1)) ∧ w'.cell? ⟨(dN.add ((aV).toNat * 6)).block, (dN.add ((aV).toNat * 6)).off + 2, none⟩ = some (.string ((aj l0 aV).f2)) ∧ w'.cell? ⟨(dN.add ((aV).toNat * 6)).block, (dN.add ((aV).toNat * 6)).off + 3, none⟩ = some (.string ((aj l0 aV).f3)) ∧ w'.cell? ⟨(dN.add ((aV).toNat * 6)).block, (dN.add ((aV).toNat * 6)).off + 4, none⟩ = some (.string ((aj l0 aV).f4)) ∧ w'.cell? ⟨(dN.add ((aV).toNat * 6)).block, (dN.add ((aV).toNat * 6)).off + 5, none⟩ = some (.int .u64 ((aj l0 aV).f5))) (ds := []) #[false, false, false, false, false, false, false, false, false, false, false, false, false, false, false, false] (by kernel_rfl) rfl rfl ⟨(gq HB amE), (gq HB amD), (gq HB amC), (gq HB amB), (gq HB amA), (gq HB amz), (gq HB amM), (gq HB amL), (gq HB amK), (gq HB amJ), (gq HB amI), (gq HB amH)⟩ (fun hHeld => ?_); refine gU au.aqS au.ai8 (fun bI mF => ?_)
                   (generalize wc.drew = w31 at HB ND NG NH NI NJ NK NM NP NQ NR NS NT hHeld ⊢); (refine gI 0 48 bI.out ?_)
                   refine gI 1 49 bI.out ?_
                   refine gI 2 50 bI.out ?_
                   refine gI 3 51 bI.out ?_
                   refine gI 4 52 bI.out ?_
                   refine gI 5 53 bI.out ?_
                   refine gI 6 54 bI.out ?_
                   refine gI 7 55 bI.out ?_
                   refine gI 9 57 bI.out ?_
                   refine gI 10 58 bI.out ?_
                   refine gI 11 59 bI.out ?_
                   refine gI 12 60 bI.out ?_
                   refine wZ 8 56 bI.out mF.out rfl hHeld (amv) ?_
                   refine wZ 13 61 bI.out mF.out rfl hHeld (amv) ?_
                   refine gI 14 62 bI.out ?_
                   refine gI 15 63 bI.out ?_
                   (refine lU (jh bI.out (by kernel_rfl)) ?_); (try go_wp2); (go_meet)
                   case rel => exact ⟨_, ((((aj l0 (gQ)).f1) == ((aj l0 aV).f1))), (by first | rfl | (simp; done) | (simp only [← Hq] <;> (first | rfl | simp)) | (simp [*]; done)), H', ⟨by have := oh.out; have := HJ2.out; have := ai7.out; first | omega | exact Nat.le_refl _⟩, ⟨qP⟩⟩
                  ·rw [if_neg VY] at H
                   exact absurd H (by simp)
                 ·rw [if_neg c29] at H
                  exact absurd H (by simp)
                ·rw [if_neg c28] at H
                 exact absurd H (by simp)
               ·rw [if_neg Qh] at H
                exact absurd H (by simp)
              ·rw [if_neg c25] at H
               (have ug : decide (0 < aV) = false := decide_eq_false c25); (clear c25); ((first | rw [ug] | (simp only [dM, eu]; rw [ug]) | skip)); (have H' := ah.mk H); (clear H); (try go_wp2); (replace HB := ah.mk (fB HB.out)); (refine jP (n := 16) (S := fun w' => True) (ds := []) #[false, false, false, false, false, false, false, false, false, false, false, false, false, false, false, false] (by kernel_rfl) rfl rfl trivial (fun hHeld => ?_); refine gU au.aqS au.ai8 (fun bI mF => ?_)); (generalize wc.drew = w32 at HB hHeld ⊢); (refine gI 0 48 bI.out ?_)
               refine gI 1 49 bI.out ?_
               refine gI 2 50 bI.out ?_
               refine oJ 3 51 bI.out ?_
               refine oJ 4 52 bI.out ?_
               refine oJ 5 53 bI.out ?_
               refine oJ 6 54 bI.out ?_
               refine oJ 7 55 bI.out ?_
               refine oJ 8 56 bI.out ?_
               refine oJ 9 57 bI.out ?_
               refine oJ 10 58 bI.out ?_
               refine oJ 11 59 bI.out ?_
               refine oJ 12 60 bI.out ?_
               refine oJ 13 61 bI.out ?_
               refine oJ 14 62 bI.out ?_
               refine gI 15 63 bI.out ?_
               (refine lU (jh bI.out (by kernel_rfl)) ?_); (try go_wp2); (go_meet)
               case rel => exact ⟨_, (false), (by first | rfl | (simp; done) | (simp [*]; done)), H', ⟨by have := oh.out; have := HJ2.out; have := ai7.out; first | omega | exact Nat.le_refl _⟩, ⟨qP⟩⟩
             case rest =>
              (clear acB); (try clear c1); (try clear p1); (try clear q1); (try clear hx1); (try clear c2); (try clear zo); (try clear p2); (try clear c3); (try clear c4); (try clear uG); (try clear c5); (try clear zU); (try clear c6); (try clear p6); (try clear c7); (try clear FP); (try clear c8); (try clear T_); (try clear c11); (try clear p11); (try clear q11); (try clear aJ2); (try clear p12); (try clear q12); (try clear aO2); (try clear c15); (try clear IG); (try clear c17); (try clear ai_); (try clear c18); (try clear aqU); (try clear c23); (try clear c25); (try clear ug); (try clear Qh); (try clear aqV); (try clear c28); (try clear aqW); (try clear c29); (try clear aqX); (try clear VY); (try clear aeU); (try clear Dl); (try clear Dn); (try clear Dp); (try clear Dq); (try clear Dt); (try clear Du); (try clear Nu); (try clear Nv); (try clear Nw); (try clear Ny); (try clear Nz); (try clear NC); (try clear FQ); (try clear FT); (try clear FU); (try clear FV); (try clear FW); (try clear FX); (try clear JY); (try clear JZ); (try clear J3); (try clear J4)
              (try clear J5); (try clear J6); (try clear J7); (try clear J8); (try clear J9); (try clear J_); (try clear Ko); (try clear Kq); (try clear ND); (try clear NG); (try clear NH); (try clear NI); (try clear NJ); (try clear NK); (try clear NM); (try clear NP); (try clear NQ); (try clear NR); (try clear NS); (try clear NT); (try clear p1); (try clear p11); (try clear Vx); (try clear ahG); (try clear X7); (try clear aja); (try clear ajc); (try clear amx); (try clear amF); (try clear p2); (try clear p6); (try clear q1); (try clear q11); (try clear Vy); (try clear ahH); (try clear X8); (try clear ajb); (try clear ajd); (try clear amy); (try clear amG); (obtain ⟨kq, X_, rfl, HA, ahF, HB⟩ := hcut)
              cases kq with
              | zero => exact absurd HA.out (by simp [au.j3])
              | succ QO =>
               (have H := HA.out); (clear HA); (simp only [au.j3] at H); (by_cases FY : X_ = true)
               ·subst FY
                (have H1 : (if 0 ≤ (wrap64 (aV - 1)) then (if (wrap64 (aV - 1)) < (l0.length : Int) then ((dK.f ((aj l0 (wrap64 (aV - 1))).f0) ((aj l0 (wrap64 (aV - 1))).f1) ((aj l0 (wrap64 (aV - 1))).f2) ((aj l0 (wrap64 (aV - 1))).f3) ((aj l0 (wrap64 (aV - 1))).f4) ((aj l0 (wrap64 (aV - 1))).f5)).bind fun Qg => (if 0 ≤ aV then (if aV < (l0.length : Int) then ((dK.f ((aj l0 aV).f0) ((aj l0 aV).f1) ((aj l0 aV).f2) ((aj l0 aV).f3) ((aj l0 aV).f4) ((aj l0 aV).f5)).bind fun IC => ((bW.f Qg.1 Qg.2 IC.1 IC.2).bind fun Ns => (if Ns.2.2 = true then (some false) else (au.l0 QO l0 (wrap64 (aV + 1)))))) else (none)) else (none))) else (none)) else (none)) = some r := by rw [if_pos rfl] at H; exact H); (clear H); (have H := H1); (clear H1); (obtain ⟨gV, Qi⟩ : ∃ j_ : Int, (wrap64 (aV - 1)) = j_ := ⟨_, rfl⟩)
                (replace H : (if 0 ≤ (gV) then (if (gV) < (l0.length : Int) then ((dK.f ((aj l0 (gV)).f0) ((aj l0 (gV)).f1) ((aj l0 (gV)).f2) ((aj l0 (gV)).f3) ((aj l0 (gV)).f4) ((aj l0 (gV)).f5)).bind fun Qg => (if 0 ≤ aV then (if aV < (l0.length : Int) then ((dK.f ((aj l0 aV).f0) ((aj l0 aV).f1) ((aj l0 aV).f2) ((aj l0 aV).f3) ((aj l0 aV).f4) ((aj l0 aV).f5)).bind fun IC => ((bW.f Qg.1 Qg.2 IC.1 IC.2).bind fun Ns => (if Ns.2.2 = true then (some false) else (au.l0 QO l0 (wrap64 (aV + 1)))))) else (none)) else (none))) else (none)) else (none)) = some r := by first | (rw [Qi] at H; exact H) | (simp only [Qi] at H ⊢; exact H)); (have aJ4 : (IntKind.i64.wrap (aV - 1)) = gV := (dM _).trans Qi); (by_cases Vz : 0 ≤ (gV))
                ·rw [if_pos Vz] at H
                 (have Qj : decide (0 ≤ (gV)) = true := decide_eq_true Vz); (clear Vz); (by_cases c36 : (gV) < (l0.length : Int))
                 ·rw [if_pos c36] at H
                  (have Qk : decide ((gV) < (l0.length : Int)) = true := decide_eq_true c36); (clear c36); (replace H := Option.bind_eq_some_iff.mp H); (obtain ⟨⟨zV, t124⟩, axw, H⟩ := H); (replace H : (if 0 ≤ aV then (if aV < (l0.length : Int) then ((dK.f ((aj l0 aV).f0) ((aj l0 aV).f1) ((aj l0 aV).f2) ((aj l0 aV).f3) ((aj l0 aV).f4) ((aj l0 aV).f5)).bind fun IC => ((bW.f zV t124 IC.1 IC.2).bind fun Ns => (if Ns.2.2 = true then (some false) else (au.l0 QO l0 (wrap64 (aV + 1)))))) else (none)) else (none)) = some r := H); (have A37 := ah.mk axw); (clear axw); (by_cases c38 : 0 ≤ aV)
                  ·rw [if_pos c38] at H
                   (have Ql : decide (0 ≤ aV) = true := decide_eq_true c38); (clear c38); (by_cases Ry : aV < (l0.length : Int))
                   ·rw [if_pos Ry] at H
                    (have LU : decide (aV < (l0.length : Int)) = true := decide_eq_true Ry); (clear Ry); (replace H := Option.bind_eq_some_iff.mp H); (obtain ⟨⟨zu, t127⟩, aaG, H⟩ := H); (replace H : ((bW.f zV t124 zu t127).bind fun Ns => (if Ns.2.2 = true then (some false) else (au.l0 QO l0 (wrap64 (aV + 1))))) = some r := H); (have NU := ah.mk aaG); (clear aaG); (replace H := Option.bind_eq_some_iff.mp H); (obtain ⟨⟨NV, NW, t130⟩, aje, H⟩ := H); (replace H : (if t130 = true then (some false) else (au.l0 QO l0 (wrap64 (aV + 1)))) = some r := H); (have A41 := ah.mk aje); (clear aje); (by_cases c42 : t130 = true)
                    ·subst c42
                     (have H1 : (some false) = some r := by rw [if_pos rfl] at H; exact H); (clear H); (have H := H1); (clear H1); (obtain rfl := Option.some.inj H); (try go_wp2); (replace HB := ah.mk (fB HB.out)); (have acC : 0 ≤ ((gV) : Int) := of_decide_eq_true (by first | (with_reducible assumption) | assumption)); (have acD : (gV) < (l0.length : Int) := of_decide_eq_true (by first | (with_reducible assumption) | assumption)); (obtain ⟨ajf, auf, zW, zX, zY, zZ, z_, Aa⟩ := gJ HR0.out (gV) acC acD); (have JO := Aa); (have JM := z_); (have JL := zZ); (have JK := zY); (have JJ := zX); (have JI := zW); (obtain rfl : dN = ajf := (by injection auf)); (replace zW := gq HB zW); (replace zX := gq HB zX); (replace zY := gq HB zY); (replace zZ := gq HB zZ)
                     (replace z_ := gq HB z_); (replace Aa := gq HB Aa); (replace acC := eq_true acC); (replace acD := eq_true acD); (have acE : 0 ≤ (aV : Int) := of_decide_eq_true (by first | (with_reducible assumption) | assumption)); (have acF : aV < (l0.length : Int) := of_decide_eq_true (by first | (with_reducible assumption) | assumption)); (obtain ⟨ajg, e125, Ac, Ad, Ae, Af, Ag, Ah⟩ := gJ HR0.out aV acE acF); (have JX := Ah); (have JW := Ag); (have JV := Af); (have JU := Ae); (have JR := Ad); (have JQ := Ac); (obtain rfl : dN = ajg := (by injection e125)); (replace Ac := gq HB Ac); (replace Ad := gq HB Ad); (replace Ae := gq HB Ae); (replace Af := gq HB Af)
                     (replace Ag := gq HB Ag); (replace Ah := gq HB Ah); (replace acE := eq_true acE); (replace acF := eq_true acF)
                     refine jP (n := 18) (S := fun w' => w'.cell? (dN.add (((gV)).toNat * 6)) = some (.int .u8 ((aj l0 (gV)).f0)) ∧ w'.cell? ⟨(dN.add (((gV)).toNat * 6)).block, (dN.add (((gV)).toNat * 6)).off + 1, none⟩ = some (.int .i64 ((aj l0 (gV)).f1)) ∧ w'.cell? ⟨(dN.add (((gV)).toNat * 6)).block, (dN.add (((gV)).toNat * 6)).off + 2, none⟩ = some (.string ((aj l0 (gV)).f2)) ∧ w'.cell? ⟨(dN.add (((gV)).toNat * 6)).block, (dN.add (((gV)).toNat * 6)).off + 3, none⟩ = some (.string ((aj l0 (gV)).f3)) ∧ w'.cell? ⟨(dN.add (((gV)).toNat * 6)).block, (dN.add (((gV)).toNat * 6)).off + 4, none⟩ = some (.string ((aj l0 (gV)).f4)) ∧ w'.cell? ⟨(dN.add (((gV)).toNat * 6)).block, (dN.add (((gV)).toNat * 6)).off + 5, none⟩ = some (.int .u64 ((aj l0 (gV)).f5)) ∧ w'.cell? (dN.add ((aV).toNat * 6)) = some (.int .u8 ((aj l0 aV).f0)) ∧ w'.cell? ⟨(dN.add ((aV).toNat * 6)).block, (dN.add ((aV).toNat * 6)).off + 1, none⟩ = some (.int .i64 ((aj l0 aV).f1)) ∧ w'.cell? ⟨(dN.add ((aV).toNat * 6)).block, (dN.add ((aV).toNat * 6)).off + 2, none⟩ = some (.string ((aj l0 aV).f2)) ∧ w'.cell? ⟨(dN.add ((aV).toNat * 6)).block, (dN.add ((aV).toNat * 6)).off + 3, none⟩ = some (.string ((aj l0 aV).f3)) ∧ w'.cell? ⟨(dN.add ((aV).toNat * 6)).block, (dN.add ((aV).toNat * 6)).off + 4, none⟩ = some (.string ((aj l0 aV).f4)) ∧ w'.cell? ⟨(dN.add ((aV).toNat * 6)).block, (dN.add ((aV).toNat * 6)).off + 5, none⟩ = some (.int .u64 ((aj l0 aV).f5))) (ds := []) #[false, false, false, false, false, false, false, false, false, false, false, false, false, false, false, false, false, false] (by kernel_rfl) rfl rfl ⟨(gq HB JI), (gq HB JJ), (gq HB JK), (gq HB JL), (gq HB JM), (gq HB JO), (gq HB JQ), (gq HB JR), (gq HB JU), (gq HB JV), (gq HB JW), (gq HB JX)⟩ (fun hHeld => ?_); refine gU au.aeF au.X5 (fun bI mF => ?_)
                     (generalize wc.drew = w43 at HB zW zX zY zZ z_ Aa Ac Ad Ae Af Ag Ah hHeld ⊢); (refine ji 0 65 #[true, false, false, false, false, false, false, false, false, false, false, false, false, false, false, false, false, false] bI.out ?_)
                     refine ji 1 66 #[true, true, false, false, false, false, false, false, false, false, false, false, false, false, false, false, false, false] bI.out ?_
                     refine ji 2 67 #[true, true, true, false, false, false, false, false, false, false, false, false, false, false, false, false, false, false] bI.out ?_
                     refine ji 3 68 #[true, true, true, true, false, false, false, false, false, false, false, false, false, false, false, false, false, false] bI.out ?_
                     refine ji 6 71 #[true, true, true, true, false, false, true, false, false, false, false, false, false, false, false, false, false, false] bI.out ?_
                     refine ji 7 72 #[true, true, true, true, false, false, true, true, false, false, false, false, false, false, false, false, false, false] bI.out ?_
                     refine ji 8 73 #[true, true, true, true, false, false, true, true, true, false, false, false, false, false, false, false, false, false] bI.out ?_
                     refine Ez (i := 4) (N := some 69) (v := ?_) (a' := ?_) #[true, true, true, true, true, false, true, true, true, false, false, false, false, false, false, false, false, false] bI.out mF.out rfl rfl (.inl ⟨by rfl, ?_⟩) hHeld ?_ ?_; rotate_left
                     ·rintro w' ⟨s0, s1, s2, s3, s4, s5, s6, s7, s8, s9, s10, s11⟩; go_simp; with_reducible rfl
                     rotate_left
                     ·simp only [mM, mO, mP, mQ, dM, eu]; rfl
                     refine Ez (i := 9) (N := some 74) (v := ?_) (a' := ?_) #[true, true, true, true, true, false, true, true, true, true, false, false, false, false, false, false, false, false] bI.out mF.out rfl rfl (.inl ⟨by rfl, ?_⟩) hHeld ?_ ?_; rotate_left
                     ·rintro w' ⟨s0, s1, s2, s3, s4, s5, s6, s7, s8, s9, s10, s11⟩; go_simp; with_reducible rfl
                     rotate_left
                     ·simp only [mM, mO, mP, mQ, dM, eu]; rfl
                     refine Nk (σ := Nat) 2 #[true, true, true, true, true, true, true, true, true, true, true, true, true, true, true, true, false, false] (fun s_ => [(70, .agg #[.string zV, .string t124]), (75, .agg #[.string zu, .string t127]), (76, .tuple #[.agg #[.string NV, .string NW], .bool true]), (4, .pointer (some ⟨s_, 0, none⟩)), (64, .tuple #[.agg #[.string NV, .string NW], .bool true]), (77, .agg #[.string NV, .string NW]), (78, .bool true)]) (fun s_ w' => (w'.cell? (dN.add (((gV)).toNat * 6)) = some (.int .u8 ((aj l0 (gV)).f0)) ∧ w'.cell? ⟨(dN.add (((gV)).toNat * 6)).block, (dN.add (((gV)).toNat * 6)).off + 1, none⟩ = some (.int .i64 ((aj l0 (gV)).f1)) ∧ w'.cell? ⟨(dN.add (((gV)).toNat * 6)).block, (dN.add (((gV)).toNat * 6)).off + 2, none⟩ = some (.string ((aj l0 (gV)).f2)) ∧ w'.cell? ⟨(dN.add (((gV)).toNat * 6)).block, (dN.add (((gV)).toNat * 6)).off + 3, none⟩ = some (.string ((aj l0 (gV)).f3)) ∧ w'.cell? ⟨(dN.add (((gV)).toNat * 6)).block, (dN.add (((gV)).toNat * 6)).off + 4, none⟩ = some (.string ((aj l0 (gV)).f4)) ∧ w'.cell? ⟨(dN.add (((gV)).toNat * 6)).block, (dN.add (((gV)).toNat * 6)).off + 5, none⟩ = some (.int .u64 ((aj l0 (gV)).f5)) ∧ w'.cell? (dN.add ((aV).toNat * 6)) = some (.int .u8 ((aj l0 aV).f0)) ∧ w'.cell? ⟨(dN.add ((aV).toNat * 6)).block, (dN.add ((aV).toNat * 6)).off + 1, none⟩ = some (.int .i64 ((aj l0 aV).f1)) ∧ w'.cell? ⟨(dN.add ((aV).toNat * 6)).block, (dN.add ((aV).toNat * 6)).off + 2, none⟩ = some (.string ((aj l0 aV).f2)) ∧ w'.cell? ⟨(dN.add ((aV).toNat * 6)).block, (dN.add ((aV).toNat * 6)).off + 3, none⟩ = some (.string ((aj l0 aV).f3)) ∧ w'.cell? ⟨(dN.add ((aV).toNat * 6)).block, (dN.add ((aV).toNat * 6)).off + 4, none⟩ = some (.string ((aj l0 aV).f4)) ∧ w'.cell? ⟨(dN.add ((aV).toNat * 6)).block, (dN.add ((aV).toNat * 6)).off + 5, none⟩ = some (.int .u64 ((aj l0 aV).f5))) ∧ (w'.heap[s_]? = some (.cells #[.string ⟨#[]⟩, .string ⟨#[]⟩] 48 (0, 0))) ∧ (w.heap.size ≤ s_) ∧ (w.heap.size ≤ s_) ∧ (Below w.heap.size w w')) ?_ ?_
                     rotate_left
                     ·intro oL
                      refine MB (i := 5) (j := 15) (Ni := some 70) (Nj := some 4) #[true, true, true, true, true, true, true, true, true, true, false, false, false, false, false, false, false, false] #[true, true, true, true, true, false, true, true, true, true, false, false, false, false, false, true, false, false] rfl rfl rfl rfl (vS bI.out (by kernel_rfl)) (by decide) (by decide) (fun K hK => ?_) (fun K hK => ?_)
                      ·skip
                       (refine kD Try.func60 (by kernel_rfl) rfl #[.agg #[.int .u8 ((aj l0 (gV)).f0), .int .i64 ((aj l0 (gV)).f1), .string ((aj l0 (gV)).f2), .string ((aj l0 (gV)).f3), .string ((aj l0 (gV)).f4), .int .u64 ((aj l0 (gV)).f5)]] (by rfl) rfl rfl (by (try simp only [List.map_toArray, List.map_cons, List.map_nil]); first | done | (simp only [Qi]; rfl) | rfl | (simp only [List.length_drop, List.length_take]; rfl)) ?_); (with_reducible refine (dK.calls ((aj l0 (gV)).f0) ((aj l0 (gV)).f1) ((aj l0 (gV)).f2) ((aj l0 (gV)).f3) ((aj l0 (gV)).f4) ((aj l0 (gV)).f5) zV t124 _ A37.out).mono ?_); (rintro e w44 ⟨rfl, hb⟩); (refine ⟨_, rfl, ?_⟩); (replace HB := ah.mk (ak (qP) hb)); ((try clear hb)); ((try clear hb2)); ((try clear hk)); ((try clear hi))
                       (refine hK.out _ _ yS (fun hHeld => ?_)); (clear hK K); (refine fC (a' := ?_) ?_ ?_)
                       rotate_left
                       ·show Act.put _ (some 70) _ = _
                        (simp only [mM, mO, mP, mQ, dM, eu]); (rfl)
                       refine MB (i := 10) (j := 15) (Ni := some 75) (Nj := some 4) #[true, true, true, true, true, true, true, true, true, true, true, false, false, false, false, false, false, false] #[true, true, true, true, true, true, true, true, true, true, false, false, false, false, false, true, false, false] rfl rfl rfl rfl (vS bI.out (by kernel_rfl)) (by decide) (by decide) (fun K hK => ?_) (fun K hK => ?_)
                       ·skip
                        (refine kD Try.func60 (by kernel_rfl) rfl #[.agg #[.int .u8 ((aj l0 aV).f0), .int .i64 ((aj l0 aV).f1), .string ((aj l0 aV).f2), .string ((aj l0 aV).f3), .string ((aj l0 aV).f4), .int .u64 ((aj l0 aV).f5)]] (by rfl) rfl rfl (by (try simp only [List.map_toArray, List.map_cons, List.map_nil]); first | done | rfl) ?_); (with_reducible refine (dK.calls ((aj l0 aV).f0) ((aj l0 aV).f1) ((aj l0 aV).f2) ((aj l0 aV).f3) ((aj l0 aV).f4) ((aj l0 aV).f5) zu t127 _ NU.out).mono ?_); (rintro e w45 ⟨rfl, hb⟩); (refine ⟨_, rfl, ?_⟩); (replace HB := ah.mk (ak (qP) hb)); ((try clear hb)); ((try clear hb2)); ((try clear hk)); ((try clear hi))
                        (refine hK.out _ _ yS (fun hHeld => ?_)); (clear hK K); (refine fC (a' := ?_) ?_ ?_)
                        rotate_left
                        ·show Act.put _ (some 75) _ = _
                         (simp only [mM, mO, mP, mQ, dM, eu]); (rfl)
                        refine MB (i := 11) (j := 15) (Ni := some 76) (Nj := some 4) #[true, true, true, true, true, true, true, true, true, true, true, true, false, false, false, false, false, false] #[true, true, true, true, true, true, true, true, true, true, true, false, false, false, false, true, false, false] rfl rfl rfl rfl (vS bI.out (by kernel_rfl)) (by decide) (by decide) (fun K hK => ?_) (fun K hK => ?_)
                        ·skip
                         (refine kD Try.func88 (by kernel_rfl) rfl #[.agg #[.string zV, .string t124], .agg #[.string zu, .string t127]] (by rfl) rfl rfl (by (try simp only [List.map_toArray, List.map_cons, List.map_nil]); first | done | rfl) ?_); (with_reducible refine (bW.calls zV t124 zu t127 NV NW true _ A41.out).mono ?_); (rintro e w46 ⟨rfl, hb⟩); (refine ⟨_, rfl, ?_⟩); (replace HB := ah.mk (ak (qP) hb)); ((try clear hb)); ((try clear hb2)); ((try clear hk)); ((try clear hi))
                         (refine hK.out _ _ yS (fun hHeld => ?_)); (clear hK K); (refine fC (a' := ?_) ?_ ?_)
                         rotate_left
                         ·show Act.put _ (some 76) _ = _
                          (simp only [mM, mO, mP, mQ, dM, eu]); (rfl)
                         refine ji 12 64 #[true, true, true, true, true, true, true, true, true, true, true, true, true, false, false, false, false, false] bI.out ?_
                         refine ji 13 77 #[true, true, true, true, true, true, true, true, true, true, true, true, true, true, false, false, false, false] bI.out ?_
                         refine ji 14 78 #[true, true, true, true, true, true, true, true, true, true, true, true, true, true, true, false, false, false] bI.out ?_
                         (refine kN (i := 15) (N := some 4) #[true, true, true, true, true, true, true, true, true, true, true, true, true, true, true, true, false, false] rfl rfl (gG bI.out (by kernel_rfl)) (by decide) (fun K hK => ?_)); (refine jH ?hg (N := 4) ?hd (cs := #[.string ⟨#[]⟩, .string ⟨#[]⟩]) (t := 48) ?hr ?_; (case hd => rfl); (case hg => rfl); (case hr => first | (go_simp; done) | (go_simp; rfl))); (intro jT hg w47 hbox hb); (have pG := ah.mk (ak (qP) hb)); (have pI := ah.mk (hbox)); (have nZ := ah.mk (hs_ hg (qP))); (have pJ := nZ); (clear HB); (have HB := pG); (have pF := pI); (have lJ := nZ); (have xH := pJ); (clear pG pI nZ pJ hb hbox hg)
                         (refine hK.out _ _ yS (fun hHeld => ?_)); (clear hK K); (refine fC (a' := ?_) ?_ ?_)
                         rotate_left
                         ·show Act.put _ (some 4) _ = _
                          (simp only [mM, mO, mP, mQ, dM, eu]); (rfl)
                         exact fC (aaE) (oL (jT) _ ⟨hHeld, (EI), lJ.out, xH.out, (CY)⟩)
                        ·skip
                         (refine jH ?hg (N := 4) ?hd (cs := #[.string ⟨#[]⟩, .string ⟨#[]⟩]) (t := 48) ?hr ?_; (case hd => rfl); (case hg => rfl); (case hr => first | (go_simp; done) | (go_simp; rfl))); (intro jT hg w46 hbox hb); (have pG := ah.mk (ak (qP) hb)); (have pI := ah.mk (hbox)); (have nZ := ah.mk (hs_ hg (qP))); (have pJ := nZ); (clear HB); (have HB := pG); (have pF := pI); (have lJ := nZ); (have xH := pJ); (clear pG pI nZ pJ hb hbox hg)
                         (refine hK.out _ _ yS (fun hHeld => ?_)); (clear hK K); (refine fC (a' := ?_) ?_ ?_)
                         rotate_left
                         ·show Act.put _ (some 4) _ = _
                          (simp only [mM, mO, mP, mQ, dM, eu]); (rfl)
                         (refine kN (i := 11) (N := some 76) #[true, true, true, true, true, true, true, true, true, true, true, true, false, false, false, true, false, false] rfl rfl (gG bI.out (by kernel_rfl)) (by decide) (fun K hK => ?_)); (refine kD Try.func88 (by kernel_rfl) rfl #[.agg #[.string zV, .string t124], .agg #[.string zu, .string t127]] (by rfl) rfl rfl (by (try simp only [List.map_toArray, List.map_cons, List.map_nil]); first | done | rfl) ?_); (with_reducible refine (bW.calls zV t124 zu t127 NV NW true _ A41.out).mono ?_); (rintro e w47 ⟨rfl, hb⟩); (refine ⟨_, rfl, ?_⟩); (replace pF := ah.mk (aA (EI) hb)); (replace HB := ah.mk (ak (CY) hb)); ((try clear hb)); ((try clear hb2))
                         ((try clear hk)); ((try clear hi)); (refine hK.out _ _ yS (fun hHeld => ?_)); (clear hK K); (refine fC (a' := ?_) ?_ ?_)
                         rotate_left
                         ·show Act.put _ (some 76) _ = _
                          (simp only [mM, mO, mP, mQ, dM, eu]); (rfl)
                         refine ji 12 64 #[true, true, true, true, true, true, true, true, true, true, true, true, true, false, false, true, false, false] bI.out ?_
                         refine ji 13 77 #[true, true, true, true, true, true, true, true, true, true, true, true, true, true, false, true, false, false] bI.out ?_
                         refine ji 14 78 #[true, true, true, true, true, true, true, true, true, true, true, true, true, true, true, true, false, false] bI.out ?_
                         exact fC (aaE) (oL (jT) _ ⟨hHeld, (EI), lJ.out, xH.out, (CY)⟩)
                       ·skip
                        (refine jH ?hg (N := 4) ?hd (cs := #[.string ⟨#[]⟩, .string ⟨#[]⟩]) (t := 48) ?hr ?_; (case hd => rfl); (case hg => rfl); (case hr => first | (go_simp; done) | (go_simp; rfl))); (intro jT hg w45 hbox hb); (have pG := ah.mk (ak (qP) hb)); (have pI := ah.mk (hbox)); (have nZ := ah.mk (hs_ hg (qP))); (have pJ := nZ); (clear HB); (have HB := pG); (have pF := pI); (have lJ := nZ); (have xH := pJ); (clear pG pI nZ pJ hb hbox hg)
                        (refine hK.out _ _ yS (fun hHeld => ?_)); (clear hK K); (refine fC (a' := ?_) ?_ ?_)
                        rotate_left
                        ·show Act.put _ (some 4) _ = _
                         (simp only [mM, mO, mP, mQ, dM, eu]); (rfl)
                        (refine kN (i := 10) (N := some 75) #[true, true, true, true, true, true, true, true, true, true, true, false, false, false, false, true, false, false] rfl rfl (gG bI.out (by kernel_rfl)) (by decide) (fun K hK => ?_)); (refine kD Try.func60 (by kernel_rfl) rfl #[.agg #[.int .u8 ((aj l0 aV).f0), .int .i64 ((aj l0 aV).f1), .string ((aj l0 aV).f2), .string ((aj l0 aV).f3), .string ((aj l0 aV).f4), .int .u64 ((aj l0 aV).f5)]] (by rfl) rfl rfl (by (try simp only [List.map_toArray, List.map_cons, List.map_nil]); first | done | rfl) ?_); (with_reducible refine (dK.calls ((aj l0 aV).f0) ((aj l0 aV).f1) ((aj l0 aV).f2) ((aj l0 aV).f3) ((aj l0 aV).f4) ((aj l0 aV).f5) zu t127 _ NU.out).mono ?_); (rintro e w46 ⟨rfl, hb⟩); (refine ⟨_, rfl, ?_⟩); (replace pF := ah.mk (aA (EI) hb)); (replace HB := ah.mk (ak (CY) hb)); ((try clear hb)); ((try clear hb2)); ((try clear hk)); ((try clear hi)); (refine hK.out _ _ yS (fun hHeld => ?_))
                        (clear hK K); (refine fC (a' := ?_) ?_ ?_)
                        rotate_left
                        ·show Act.put _ (some 75) _ = _
                         (simp only [mM, mO, mP, mQ, dM, eu]); (rfl)
                        (refine kN (i := 11) (N := some 76) #[true, true, true, true, true, true, true, true, true, true, true, true, false, false, false, true, false, false] rfl rfl (gG bI.out (by kernel_rfl)) (by decide) (fun K hK => ?_)); (refine kD Try.func88 (by kernel_rfl) rfl #[.agg #[.string zV, .string t124], .agg #[.string zu, .string t127]] (by rfl) rfl rfl (by (try simp only [List.map_toArray, List.map_cons, List.map_nil]); first | done | rfl) ?_); (with_reducible refine (bW.calls zV t124 zu t127 NV NW true _ A41.out).mono ?_); (rintro e w47 ⟨rfl, hb⟩); (refine ⟨_, rfl, ?_⟩); (replace pF := ah.mk (aA (EI) hb)); (replace HB := ah.mk (ak (CY) hb)); ((try clear hb)); ((try clear hb2))
                        ((try clear hk)); ((try clear hi)); (refine hK.out _ _ yS (fun hHeld => ?_)); (clear hK K); (refine fC (a' := ?_) ?_ ?_)
                        rotate_left
                        ·show Act.put _ (some 76) _ = _
                         (simp only [mM, mO, mP, mQ, dM, eu]); (rfl)
                        refine ji 12 64 #[true, true, true, true, true, true, true, true, true, true, true, true, true, false, false, true, false, false] bI.out ?_
                        refine ji 13 77 #[true, true, true, true, true, true, true, true, true, true, true, true, true, true, false, true, false, false] bI.out ?_
                        refine ji 14 78 #[true, true, true, true, true, true, true, true, true, true, true, true, true, true, true, true, false, false] bI.out ?_
                        exact fC (aaE) (oL (jT) _ ⟨hHeld, (EI), lJ.out, xH.out, (CY)⟩)
                      ·skip
                       (refine jH ?hg (N := 4) ?hd (cs := #[.string ⟨#[]⟩, .string ⟨#[]⟩]) (t := 48) ?hr ?_; (case hd => rfl); (case hg => rfl); (case hr => first | (go_simp; done) | (go_simp; rfl))); (intro jT hg w44 hbox hb); (have pG := ah.mk (ak (qP) hb)); (have pI := ah.mk (hbox)); (have nZ := ah.mk (hs_ hg (qP))); (have pJ := nZ); (clear HB); (have HB := pG); (have pF := pI); (have lJ := nZ); (have xH := pJ); (clear pG pI nZ pJ hb hbox hg)
                       (refine hK.out _ _ yS (fun hHeld => ?_)); (clear hK K); (refine fC (a' := ?_) ?_ ?_)
                       rotate_left
                       ·show Act.put _ (some 4) _ = _
                        (simp only [mM, mO, mP, mQ, dM, eu]); (rfl)
                       (refine kN (i := 5) (N := some 70) #[true, true, true, true, true, true, true, true, true, true, false, false, false, false, false, true, false, false] rfl rfl (gG bI.out (by kernel_rfl)) (by decide) (fun K hK => ?_)); (refine kD Try.func60 (by kernel_rfl) rfl #[.agg #[.int .u8 ((aj l0 (gV)).f0), .int .i64 ((aj l0 (gV)).f1), .string ((aj l0 (gV)).f2), .string ((aj l0 (gV)).f3), .string ((aj l0 (gV)).f4), .int .u64 ((aj l0 (gV)).f5)]] (by rfl) rfl rfl (by (try simp only [List.map_toArray, List.map_cons, List.map_nil]); first | done | (simp only [Qi]; rfl) | rfl | (simp only [List.length_drop, List.length_take]; rfl)) ?_); (with_reducible refine (dK.calls ((aj l0 (gV)).f0) ((aj l0 (gV)).f1) ((aj l0 (gV)).f2) ((aj l0 (gV)).f3) ((aj l0 (gV)).f4) ((aj l0 (gV)).f5) zV t124 _ A37.out).mono ?_); (rintro e w45 ⟨rfl, hb⟩); (refine ⟨_, rfl, ?_⟩); (replace pF := ah.mk (aA (EI) hb)); (replace HB := ah.mk (ak (CY) hb)); ((try clear hb)); ((try clear hb2)); ((try clear hk)); ((try clear hi)); (refine hK.out _ _ yS (fun hHeld => ?_))
                       (clear hK K); (refine fC (a' := ?_) ?_ ?_)
                       rotate_left
                       ·show Act.put _ (some 70) _ = _
                        (simp only [mM, mO, mP, mQ, dM, eu]); (rfl)
                       (refine kN (i := 10) (N := some 75) #[true, true, true, true, true, true, true, true, true, true, true, false, false, false, false, true, false, false] rfl rfl (gG bI.out (by kernel_rfl)) (by decide) (fun K hK => ?_)); (refine kD Try.func60 (by kernel_rfl) rfl #[.agg #[.int .u8 ((aj l0 aV).f0), .int .i64 ((aj l0 aV).f1), .string ((aj l0 aV).f2), .string ((aj l0 aV).f3), .string ((aj l0 aV).f4), .int .u64 ((aj l0 aV).f5)]] (by rfl) rfl rfl (by (try simp only [List.map_toArray, List.map_cons, List.map_nil]); first | done | rfl) ?_); (with_reducible refine (dK.calls ((aj l0 aV).f0) ((aj l0 aV).f1) ((aj l0 aV).f2) ((aj l0 aV).f3) ((aj l0 aV).f4) ((aj l0 aV).f5) zu t127 _ NU.out).mono ?_); (rintro e w46 ⟨rfl, hb⟩); (refine ⟨_, rfl, ?_⟩); (replace pF := ah.mk (aA (EI) hb)); (replace HB := ah.mk (ak (CY) hb)); ((try clear hb)); ((try clear hb2)); ((try clear hk)); ((try clear hi)); (refine hK.out _ _ yS (fun hHeld => ?_))
                       (clear hK K); (refine fC (a' := ?_) ?_ ?_)
                       rotate_left
                       ·show Act.put _ (some 75) _ = _
                        (simp only [mM, mO, mP, mQ, dM, eu]); (rfl)
                       (refine kN (i := 11) (N := some 76) #[true, true, true, true, true, true, true, true, true, true, true, true, false, false, false, true, false, false] rfl rfl (gG bI.out (by kernel_rfl)) (by decide) (fun K hK => ?_)); (refine kD Try.func88 (by kernel_rfl) rfl #[.agg #[.string zV, .string t124], .agg #[.string zu, .string t127]] (by rfl) rfl rfl (by (try simp only [List.map_toArray, List.map_cons, List.map_nil]); first | done | rfl) ?_); (with_reducible refine (bW.calls zV t124 zu t127 NV NW true _ A41.out).mono ?_); (rintro e w47 ⟨rfl, hb⟩); (refine ⟨_, rfl, ?_⟩); (replace pF := ah.mk (aA (EI) hb)); (replace HB := ah.mk (ak (CY) hb)); ((try clear hb)); ((try clear hb2))
                       ((try clear hk)); ((try clear hi)); (refine hK.out _ _ yS (fun hHeld => ?_)); (clear hK K); (refine fC (a' := ?_) ?_ ?_)
                       rotate_left
                       ·show Act.put _ (some 76) _ = _
                        (simp only [mM, mO, mP, mQ, dM, eu]); (rfl)
                       refine ji 12 64 #[true, true, true, true, true, true, true, true, true, true, true, true, true, false, false, true, false, false] bI.out ?_
                       refine ji 13 77 #[true, true, true, true, true, true, true, true, true, true, true, true, true, true, false, true, false, false] bI.out ?_
                       refine ji 14 78 #[true, true, true, true, true, true, true, true, true, true, true, true, true, true, true, true, false, false] bI.out ?_
                       exact fC (aaE) (oL (jT) _ ⟨hHeld, (EI), lJ.out, xH.out, (CY)⟩)
                     (rintro jT w48 ⟨hS_, Qm, Qn, Qo, Qp⟩); (have pF : ah (w48.heap[jT]? = some (.cells #[.string ⟨#[]⟩, .string ⟨#[]⟩] 48 (0, 0))) := ⟨Qm⟩); (have lJ : ah (w.heap.size ≤ jT) := ⟨Qn⟩); (have xH : ah (w.heap.size ≤ jT) := ⟨Qo⟩); (replace HB : ah (Below w.heap.size w w48) := ⟨Qp⟩); (clear Qm Qn Qo Qp)
                     have hHeld := hS_
                     refine fC (a' := ?_) ?_ ?_
                     rotate_left
                     ·simp only [sS, Act.put, List.setIfInBounds_toArray, List.set_cons_zero, List.set_cons_succ]
                      rfl
                     (refine kN (i := 16) (N := none) #[true, true, true, true, true, true, true, true, true, true, true, true, true, true, true, true, true, false] rfl rfl (gG bI.out (by kernel_rfl)) (by decide) (fun K hK => ?_)); (have aO3 : w48.cell? ⟨jT, 0, none⟩ = some (.string ⟨#[]⟩) := (b_ pF 0)); (have aM3 := dJ pF.out 0); (have aO4 : w48.cell? ⟨jT, 1, none⟩ = some (.string ⟨#[]⟩) := (b_ pF 1)); (have aM4 := dJ pF.out 1); (refine t_ (w1 := ?_) (by rfl) rfl ?_ ?_)
                     rotate_left
                     ·go_simp
                      rfl
                     refine hK.out _ _ axm (fun hHeld => ?_)
                     (clear hK K); (refine ji 17 5 #[true, true, true, true, true, true, true, true, true, true, true, true, true, true, true, true, true, true] bI.out ?_)
                     (refine lU (jh bI.out (by kernel_rfl)) ?_); (try go_wp2); (go_ret); (exact ⟨by first | rfl | (simp [bg, bn] <;> rfl) | (simp only [← Qi]; first | rfl | (simp [bg, bn] <;> rfl)) | (simp [*, bg, bn] <;> rfl), CY⟩)
                    ·replace c42 := Bool.eq_false_iff.mpr c42
                     (subst c42); (have H1 : (au.l0 QO l0 (wrap64 (aV + 1))) = some r := by rw [if_neg (show ¬ (false = true) by decide)] at H; exact H); (clear H); (have H := H1); (clear H1); (have H' := ah.mk H); (clear H); (try go_wp2); (replace HB := ah.mk (fB HB.out)); (have acC : 0 ≤ ((gV) : Int) := of_decide_eq_true (by first | (with_reducible assumption) | assumption)); (have acD : (gV) < (l0.length : Int) := of_decide_eq_true (by first | (with_reducible assumption) | assumption)); (obtain ⟨ajf, auf, zW, zX, zY, zZ, z_, Aa⟩ := gJ HR0.out (gV) acC acD); (have JO := Aa); (have JM := z_); (have JL := zZ); (have JK := zY); (have JJ := zX); (have JI := zW); (obtain rfl : dN = ajf := (by injection auf)); (replace zW := gq HB zW); (replace zX := gq HB zX); (replace zY := gq HB zY)
                     (replace zZ := gq HB zZ); (replace z_ := gq HB z_); (replace Aa := gq HB Aa); (replace acC := eq_true acC); (replace acD := eq_true acD); (have acE : 0 ≤ (aV : Int) := of_decide_eq_true (by first | (with_reducible assumption) | assumption)); (have acF : aV < (l0.length : Int) := of_decide_eq_true (by first | (with_reducible assumption) | assumption)); (obtain ⟨ajg, e125, Ac, Ad, Ae, Af, Ag, Ah⟩ := gJ HR0.out aV acE acF); (have JX := Ah); (have JW := Ag); (have JV := Af); (have JU := Ae); (have JR := Ad); (have JQ := Ac); (obtain rfl : dN = ajg := (by injection e125)); (replace Ac := gq HB Ac); (replace Ad := gq HB Ad); (replace Ae := gq HB Ae)
                     (replace Af := gq HB Af); (replace Ag := gq HB Ag); (replace Ah := gq HB Ah); (replace acE := eq_true acE); (replace acF := eq_true acF)
                     refine jP (n := 18) (S := fun w' => w'.cell? (dN.add (((gV)).toNat * 6)) = some (.int .u8 ((aj l0 (gV)).f0)) ∧ w'.cell? ⟨(dN.add (((gV)).toNat * 6)).block, (dN.add (((gV)).toNat * 6)).off + 1, none⟩ = some (.int .i64 ((aj l0 (gV)).f1)) ∧ w'.cell? ⟨(dN.add (((gV)).toNat * 6)).block, (dN.add (((gV)).toNat * 6)).off + 2, none⟩ = some (.string ((aj l0 (gV)).f2)) ∧ w'.cell? ⟨(dN.add (((gV)).toNat * 6)).block, (dN.add (((gV)).toNat * 6)).off + 3, none⟩ = some (.string ((aj l0 (gV)).f3)) ∧ w'.cell? ⟨(dN.add (((gV)).toNat * 6)).block, (dN.add (((gV)).toNat * 6)).off + 4, none⟩ = some (.string ((aj l0 (gV)).f4)) ∧ w'.cell? ⟨(dN.add (((gV)).toNat * 6)).block, (dN.add (((gV)).toNat * 6)).off + 5, none⟩ = some (.int .u64 ((aj l0 (gV)).f5)) ∧ w'.cell? (dN.add ((aV).toNat * 6)) = some (.int .u8 ((aj l0 aV).f0)) ∧ w'.cell? ⟨(dN.add ((aV).toNat * 6)).block, (dN.add ((aV).toNat * 6)).off + 1, none⟩ = some (.int .i64 ((aj l0 aV).f1)) ∧ w'.cell? ⟨(dN.add ((aV).toNat * 6)).block, (dN.add ((aV).toNat * 6)).off + 2, none⟩ = some (.string ((aj l0 aV).f2)) ∧ w'.cell? ⟨(dN.add ((aV).toNat * 6)).block, (dN.add ((aV).toNat * 6)).off + 3, none⟩ = some (.string ((aj l0 aV).f3)) ∧ w'.cell? ⟨(dN.add ((aV).toNat * 6)).block, (dN.add ((aV).toNat * 6)).off + 4, none⟩ = some (.string ((aj l0 aV).f4)) ∧ w'.cell? ⟨(dN.add ((aV).toNat * 6)).block, (dN.add ((aV).toNat * 6)).off + 5, none⟩ = some (.int .u64 ((aj l0 aV).f5))) (ds := []) #[false, false, false, false, false, false, false, false, false, false, false, false, false, false, false, false, false, false] (by kernel_rfl) rfl rfl ⟨(gq HB JI), (gq HB JJ), (gq HB JK), (gq HB JL), (gq HB JM), (gq HB JO), (gq HB JQ), (gq HB JR), (gq HB JU), (gq HB JV), (gq HB JW), (gq HB JX)⟩ (fun hHeld => ?_); refine gU au.aeF au.X5 (fun bI mF => ?_)
                     (generalize wc.drew = w51 at HB zW zX zY zZ z_ Aa Ac Ad Ae Af Ag Ah hHeld ⊢); (refine ji 0 65 #[true, false, false, false, false, false, false, false, false, false, false, false, false, false, false, false, false, false] bI.out ?_)
                     refine ji 1 66 #[true, true, false, false, false, false, false, false, false, false, false, false, false, false, false, false, false, false] bI.out ?_
                     refine ji 2 67 #[true, true, true, false, false, false, false, false, false, false, false, false, false, false, false, false, false, false] bI.out ?_
                     refine ji 3 68 #[true, true, true, true, false, false, false, false, false, false, false, false, false, false, false, false, false, false] bI.out ?_
                     refine ji 6 71 #[true, true, true, true, false, false, true, false, false, false, false, false, false, false, false, false, false, false] bI.out ?_
                     refine ji 7 72 #[true, true, true, true, false, false, true, true, false, false, false, false, false, false, false, false, false, false] bI.out ?_
                     refine ji 8 73 #[true, true, true, true, false, false, true, true, true, false, false, false, false, false, false, false, false, false] bI.out ?_
                     refine Ez (i := 4) (N := some 69) (v := ?_) (a' := ?_) #[true, true, true, true, true, false, true, true, true, false, false, false, false, false, false, false, false, false] bI.out mF.out rfl rfl (.inl ⟨by rfl, ?_⟩) hHeld ?_ ?_; rotate_left
                     ·rintro w' ⟨s0, s1, s2, s3, s4, s5, s6, s7, s8, s9, s10, s11⟩; go_simp; with_reducible rfl
                     rotate_left
                     ·simp only [mM, mO, mP, mQ, dM, eu]; rfl
                     refine Ez (i := 9) (N := some 74) (v := ?_) (a' := ?_) #[true, true, true, true, true, false, true, true, true, true, false, false, false, false, false, false, false, false] bI.out mF.out rfl rfl (.inl ⟨by rfl, ?_⟩) hHeld ?_ ?_; rotate_left
                     ·rintro w' ⟨s0, s1, s2, s3, s4, s5, s6, s7, s8, s9, s10, s11⟩; go_simp; with_reducible rfl
                     rotate_left
                     ·simp only [mM, mO, mP, mQ, dM, eu]; rfl
                     refine Nk (σ := Nat) 2 #[true, true, true, true, true, true, true, true, true, true, true, true, true, true, true, true, false, false] (fun s_ => [(70, .agg #[.string zV, .string t124]), (75, .agg #[.string zu, .string t127]), (76, .tuple #[.agg #[.string NV, .string NW], .bool false]), (4, .pointer (some ⟨s_, 0, none⟩)), (64, .tuple #[.agg #[.string NV, .string NW], .bool false]), (77, .agg #[.string NV, .string NW]), (78, .bool false)]) (fun s_ w' => (w'.cell? (dN.add (((gV)).toNat * 6)) = some (.int .u8 ((aj l0 (gV)).f0)) ∧ w'.cell? ⟨(dN.add (((gV)).toNat * 6)).block, (dN.add (((gV)).toNat * 6)).off + 1, none⟩ = some (.int .i64 ((aj l0 (gV)).f1)) ∧ w'.cell? ⟨(dN.add (((gV)).toNat * 6)).block, (dN.add (((gV)).toNat * 6)).off + 2, none⟩ = some (.string ((aj l0 (gV)).f2)) ∧ w'.cell? ⟨(dN.add (((gV)).toNat * 6)).block, (dN.add (((gV)).toNat * 6)).off + 3, none⟩ = some (.string ((aj l0 (gV)).f3)) ∧ w'.cell? ⟨(dN.add (((gV)).toNat * 6)).block, (dN.add (((gV)).toNat * 6)).off + 4, none⟩ = some (.string ((aj l0 (gV)).f4)) ∧ w'.cell? ⟨(dN.add (((gV)).toNat * 6)).block, (dN.add (((gV)).toNat * 6)).off + 5, none⟩ = some (.int .u64 ((aj l0 (gV)).f5)) ∧ w'.cell? (dN.add ((aV).toNat * 6)) = some (.int .u8 ((aj l0 aV).f0)) ∧ w'.cell? ⟨(dN.add ((aV).toNat * 6)).block, (dN.add ((aV).toNat * 6)).off + 1, none⟩ = some (.int .i64 ((aj l0 aV).f1)) ∧ w'.cell? ⟨(dN.add ((aV).toNat * 6)).block, (dN.add ((aV).toNat * 6)).off + 2, none⟩ = some (.string ((aj l0 aV).f2)) ∧ w'.cell? ⟨(dN.add ((aV).toNat * 6)).block, (dN.add ((aV).toNat * 6)).off + 3, none⟩ = some (.string ((aj l0 aV).f3)) ∧ w'.cell? ⟨(dN.add ((aV).toNat * 6)).block, (dN.add ((aV).toNat * 6)).off + 4, none⟩ = some (.string ((aj l0 aV).f4)) ∧ w'.cell? ⟨(dN.add ((aV).toNat * 6)).block, (dN.add ((aV).toNat * 6)).off + 5, none⟩ = some (.int .u64 ((aj l0 aV).f5))) ∧ (w'.heap[s_]? = some (.cells #[.string ⟨#[]⟩, .string ⟨#[]⟩] 48 (0, 0))) ∧ (w.heap.size ≤ s_) ∧ (w.heap.size ≤ s_) ∧ (Below w.heap.size w w')) ?_ ?_
                     rotate_left
                     ·intro oL
                      refine MB (i := 5) (j := 15) (Ni := some 70) (Nj := some 4) #[true, true, true, true, true, true, true, true, true, true, false, false, false, false, false, false, false, false] #[true, true, true, true, true, false, true, true, true, true, false, false, false, false, false, true, false, false] rfl rfl rfl rfl (vS bI.out (by kernel_rfl)) (by decide) (by decide) (fun K hK => ?_) (fun K hK => ?_)
                      ·skip
                       (refine kD Try.func60 (by kernel_rfl) rfl #[.agg #[.int .u8 ((aj l0 (gV)).f0), .int .i64 ((aj l0 (gV)).f1), .string ((aj l0 (gV)).f2), .string ((aj l0 (gV)).f3), .string ((aj l0 (gV)).f4), .int .u64 ((aj l0 (gV)).f5)]] (by rfl) rfl rfl (by (try simp only [List.map_toArray, List.map_cons, List.map_nil]); first | done | (simp only [Qi]; rfl) | rfl | (simp only [List.length_drop, List.length_take]; rfl)) ?_); (with_reducible refine (dK.calls ((aj l0 (gV)).f0) ((aj l0 (gV)).f1) ((aj l0 (gV)).f2) ((aj l0 (gV)).f3) ((aj l0 (gV)).f4) ((aj l0 (gV)).f5) zV t124 _ A37.out).mono ?_); (rintro e w52 ⟨rfl, hb⟩); (refine ⟨_, rfl, ?_⟩); (replace HB := ah.mk (ak (qP) hb)); ((try clear hb)); ((try clear hb2)); ((try clear hk)); ((try clear hi))
                       (refine hK.out _ _ yS (fun hHeld => ?_)); (clear hK K); (refine fC (a' := ?_) ?_ ?_)
                       rotate_left
                       ·show Act.put _ (some 70) _ = _
                        (simp only [mM, mO, mP, mQ, dM, eu]); (rfl)
                       refine MB (i := 10) (j := 15) (Ni := some 75) (Nj := some 4) #[true, true, true, true, true, true, true, true, true, true, true, false, false, false, false, false, false, false] #[true, true, true, true, true, true, true, true, true, true, false, false, false, false, false, true, false, false] rfl rfl rfl rfl (vS bI.out (by kernel_rfl)) (by decide) (by decide) (fun K hK => ?_) (fun K hK => ?_)
                       ·skip
                        (refine kD Try.func60 (by kernel_rfl) rfl #[.agg #[.int .u8 ((aj l0 aV).f0), .int .i64 ((aj l0 aV).f1), .string ((aj l0 aV).f2), .string ((aj l0 aV).f3), .string ((aj l0 aV).f4), .int .u64 ((aj l0 aV).f5)]] (by rfl) rfl rfl (by (try simp only [List.map_toArray, List.map_cons, List.map_nil]); first | done | rfl) ?_); (with_reducible refine (dK.calls ((aj l0 aV).f0) ((aj l0 aV).f1) ((aj l0 aV).f2) ((aj l0 aV).f3) ((aj l0 aV).f4) ((aj l0 aV).f5) zu t127 _ NU.out).mono ?_); (rintro e w53 ⟨rfl, hb⟩); (refine ⟨_, rfl, ?_⟩); (replace HB := ah.mk (ak (qP) hb)); ((try clear hb)); ((try clear hb2)); ((try clear hk)); ((try clear hi))
                        (refine hK.out _ _ yS (fun hHeld => ?_)); (clear hK K); (refine fC (a' := ?_) ?_ ?_)
                        rotate_left
                        ·show Act.put _ (some 75) _ = _
                         (simp only [mM, mO, mP, mQ, dM, eu]); (rfl)
                        refine MB (i := 11) (j := 15) (Ni := some 76) (Nj := some 4) #[true, true, true, true, true, true, true, true, true, true, true, true, false, false, false, false, false, false] #[true, true, true, true, true, true, true, true, true, true, true, false, false, false, false, true, false, false] rfl rfl rfl rfl (vS bI.out (by kernel_rfl)) (by decide) (by decide) (fun K hK => ?_) (fun K hK => ?_)
                        ·skip
                         (refine kD Try.func88 (by kernel_rfl) rfl #[.agg #[.string zV, .string t124], .agg #[.string zu, .string t127]] (by rfl) rfl rfl (by (try simp only [List.map_toArray, List.map_cons, List.map_nil]); first | done | rfl) ?_); (with_reducible refine (bW.calls zV t124 zu t127 NV NW false _ A41.out).mono ?_); (rintro e w54 ⟨rfl, hb⟩); (refine ⟨_, rfl, ?_⟩); (replace HB := ah.mk (ak (qP) hb)); ((try clear hb)); ((try clear hb2)); ((try clear hk)); ((try clear hi))
                         (refine hK.out _ _ yS (fun hHeld => ?_)); (clear hK K); (refine fC (a' := ?_) ?_ ?_)
                         rotate_left
                         ·show Act.put _ (some 76) _ = _
                          (simp only [mM, mO, mP, mQ, dM, eu]); (rfl)
                         refine ji 12 64 #[true, true, true, true, true, true, true, true, true, true, true, true, true, false, false, false, false, false] bI.out ?_
                         refine ji 13 77 #[true, true, true, true, true, true, true, true, true, true, true, true, true, true, false, false, false, false] bI.out ?_
                         refine ji 14 78 #[true, true, true, true, true, true, true, true, true, true, true, true, true, true, true, false, false, false] bI.out ?_
                         (refine kN (i := 15) (N := some 4) #[true, true, true, true, true, true, true, true, true, true, true, true, true, true, true, true, false, false] rfl rfl (gG bI.out (by kernel_rfl)) (by decide) (fun K hK => ?_)); (refine jH ?hg (N := 4) ?hd (cs := #[.string ⟨#[]⟩, .string ⟨#[]⟩]) (t := 48) ?hr ?_; (case hd => rfl); (case hg => rfl); (case hr => first | (go_simp; done) | (go_simp; rfl))); (intro jT hg w55 hbox hb); (have pG := ah.mk (ak (qP) hb)); (have pI := ah.mk (hbox)); (have nZ := ah.mk (hs_ hg (qP))); (have pJ := nZ); (clear HB); (have HB := pG); (have pF := pI); (have lJ := nZ); (have xH := pJ); (clear pG pI nZ pJ hb hbox hg)
                         (refine hK.out _ _ yS (fun hHeld => ?_)); (clear hK K); (refine fC (a' := ?_) ?_ ?_)
                         rotate_left
                         ·show Act.put _ (some 4) _ = _
                          (simp only [mM, mO, mP, mQ, dM, eu]); (rfl)
                         exact fC (aaE) (oL (jT) _ ⟨hHeld, (EI), lJ.out, xH.out, (CY)⟩)
                        ·skip
                         (refine jH ?hg (N := 4) ?hd (cs := #[.string ⟨#[]⟩, .string ⟨#[]⟩]) (t := 48) ?hr ?_; (case hd => rfl); (case hg => rfl); (case hr => first | (go_simp; done) | (go_simp; rfl))); (intro jT hg w54 hbox hb); (have pG := ah.mk (ak (qP) hb)); (have pI := ah.mk (hbox)); (have nZ := ah.mk (hs_ hg (qP))); (have pJ := nZ); (clear HB); (have HB := pG); (have pF := pI); (have lJ := nZ); (have xH := pJ); (clear pG pI nZ pJ hb hbox hg)
                         (refine hK.out _ _ yS (fun hHeld => ?_)); (clear hK K); (refine fC (a' := ?_) ?_ ?_)
                         rotate_left
                         ·show Act.put _ (some 4) _ = _
                          (simp only [mM, mO, mP, mQ, dM, eu]); (rfl)
                         (refine kN (i := 11) (N := some 76) #[true, true, true, true, true, true, true, true, true, true, true, true, false, false, false, true, false, false] rfl rfl (gG bI.out (by kernel_rfl)) (by decide) (fun K hK => ?_)); (refine kD Try.func88 (by kernel_rfl) rfl #[.agg #[.string zV, .string t124], .agg #[.string zu, .string t127]] (by rfl) rfl rfl (by (try simp only [List.map_toArray, List.map_cons, List.map_nil]); first | done | rfl) ?_); (with_reducible refine (bW.calls zV t124 zu t127 NV NW false _ A41.out).mono ?_); (rintro e w55 ⟨rfl, hb⟩); (refine ⟨_, rfl, ?_⟩); (replace pF := ah.mk (aA (EI) hb)); (replace HB := ah.mk (ak (CY) hb)); ((try clear hb)); ((try clear hb2))
                         ((try clear hk)); ((try clear hi)); (refine hK.out _ _ yS (fun hHeld => ?_)); (clear hK K); (refine fC (a' := ?_) ?_ ?_)
                         rotate_left
                         ·show Act.put _ (some 76) _ = _
                          (simp only [mM, mO, mP, mQ, dM, eu]); (rfl)
                         refine ji 12 64 #[true, true, true, true, true, true, true, true, true, true, true, true, true, false, false, true, false, false] bI.out ?_
                         refine ji 13 77 #[true, true, true, true, true, true, true, true, true, true, true, true, true, true, false, true, false, false] bI.out ?_
                         refine ji 14 78 #[true, true, true, true, true, true, true, true, true, true, true, true, true, true, true, true, false, false] bI.out ?_
                         exact fC (aaE) (oL (jT) _ ⟨hHeld, (EI), lJ.out, xH.out, (CY)⟩)
                       ·skip
                        (refine jH ?hg (N := 4) ?hd (cs := #[.string ⟨#[]⟩, .string ⟨#[]⟩]) (t := 48) ?hr ?_; (case hd => rfl); (case hg => rfl); (case hr => first | (go_simp; done) | (go_simp; rfl))); (intro jT hg w53 hbox hb); (have pG := ah.mk (ak (qP) hb)); (have pI := ah.mk (hbox)); (have nZ := ah.mk (hs_ hg (qP))); (have pJ := nZ); (clear HB); (have HB := pG); (have pF := pI); (have lJ := nZ); (have xH := pJ); (clear pG pI nZ pJ hb hbox hg)
                        (refine hK.out _ _ yS (fun hHeld => ?_)); (clear hK K); (refine fC (a' := ?_) ?_ ?_)
                        rotate_left
                        ·show Act.put _ (some 4) _ = _
                         (simp only [mM, mO, mP, mQ, dM, eu]); (rfl)
                        (refine kN (i := 10) (N := some 75) #[true, true, true, true, true, true, true, true, true, true, true, false, false, false, false, true, false, false] rfl rfl (gG bI.out (by kernel_rfl)) (by decide) (fun K hK => ?_)); (refine kD Try.func60 (by kernel_rfl) rfl #[.agg #[.int .u8 ((aj l0 aV).f0), .int .i64 ((aj l0 aV).f1), .string ((aj l0 aV).f2), .string ((aj l0 aV).f3), .string ((aj l0 aV).f4), .int .u64 ((aj l0 aV).f5)]] (by rfl) rfl rfl (by (try simp only [List.map_toArray, List.map_cons, List.map_nil]); first | done | rfl) ?_); (with_reducible refine (dK.calls ((aj l0 aV).f0) ((aj l0 aV).f1) ((aj l0 aV).f2) ((aj l0 aV).f3) ((aj l0 aV).f4) ((aj l0 aV).f5) zu t127 _ NU.out).mono ?_); (rintro e w54 ⟨rfl, hb⟩); (refine ⟨_, rfl, ?_⟩); (replace pF := ah.mk (aA (EI) hb)); (replace HB := ah.mk (ak (CY) hb)); ((try clear hb)); ((try clear hb2)); ((try clear hk)); ((try clear hi)); (refine hK.out _ _ yS (fun hHeld => ?_))
                        (clear hK K); (refine fC (a' := ?_) ?_ ?_)
                        rotate_left
                        ·show Act.put _ (some 75) _ = _
                         (simp only [mM, mO, mP, mQ, dM, eu]); (rfl)
                        (refine kN (i := 11) (N := some 76) #[true, true, true, true, true, true, true, true, true, true, true, true, false, false, false, true, false, false] rfl rfl (gG bI.out (by kernel_rfl)) (by decide) (fun K hK => ?_)); (refine kD Try.func88 (by kernel_rfl) rfl #[.agg #[.string zV, .string t124], .agg #[.string zu, .string t127]] (by rfl) rfl rfl (by (try simp only [List.map_toArray, List.map_cons, List.map_nil]); first | done | rfl) ?_); (with_reducible refine (bW.calls zV t124 zu t127 NV NW false _ A41.out).mono ?_); (rintro e w55 ⟨rfl, hb⟩); (refine ⟨_, rfl, ?_⟩); (replace pF := ah.mk (aA (EI) hb)); (replace HB := ah.mk (ak (CY) hb)); ((try clear hb)); ((try clear hb2))
                        ((try clear hk)); ((try clear hi)); (refine hK.out _ _ yS (fun hHeld => ?_)); (clear hK K); (refine fC (a' := ?_) ?_ ?_)
                        rotate_left
                        ·show Act.put _ (some 76) _ = _
                         (simp only [mM, mO, mP, mQ, dM, eu]); (rfl)
                        refine ji 12 64 #[true, true, true, true, true, true, true, true, true, true, true, true, true, false, false, true, false, false] bI.out ?_
                        refine ji 13 77 #[true, true, true, true, true, true, true, true, true, true, true, true, true, true, false, true, false, false] bI.out ?_
                        refine ji 14 78 #[true, true, true, true, true, true, true, true, true, true, true, true, true, true, true, true, false, false] bI.out ?_
                        exact fC (aaE) (oL (jT) _ ⟨hHeld, (EI), lJ.out, xH.out, (CY)⟩)
                      ·skip
                       (refine jH ?hg (N := 4) ?hd (cs := #[.string ⟨#[]⟩, .string ⟨#[]⟩]) (t := 48) ?hr ?_; (case hd => rfl); (case hg => rfl); (case hr => first | (go_simp; done) | (go_simp; rfl))); (intro jT hg w52 hbox hb); (have pG := ah.mk (ak (qP) hb)); (have pI := ah.mk (hbox)); (have nZ := ah.mk (hs_ hg (qP))); (have pJ := nZ); (clear HB); (have HB := pG); (have pF := pI); (have lJ := nZ); (have xH := pJ); (clear pG pI nZ pJ hb hbox hg)
                       (refine hK.out _ _ yS (fun hHeld => ?_)); (clear hK K); (refine fC (a' := ?_) ?_ ?_)
                       rotate_left
                       ·show Act.put _ (some 4) _ = _
                        (simp only [mM, mO, mP, mQ, dM, eu]); (rfl)
                       (refine kN (i := 5) (N := some 70) #[true, true, true, true, true, true, true, true, true, true, false, false, false, false, false, true, false, false] rfl rfl (gG bI.out (by kernel_rfl)) (by decide) (fun K hK => ?_)); (refine kD Try.func60 (by kernel_rfl) rfl #[.agg #[.int .u8 ((aj l0 (gV)).f0), .int .i64 ((aj l0 (gV)).f1), .string ((aj l0 (gV)).f2), .string ((aj l0 (gV)).f3), .string ((aj l0 (gV)).f4), .int .u64 ((aj l0 (gV)).f5)]] (by rfl) rfl rfl (by (try simp only [List.map_toArray, List.map_cons, List.map_nil]); first | done | (simp only [Qi]; rfl) | rfl | (simp only [List.length_drop, List.length_take]; rfl)) ?_); (with_reducible refine (dK.calls ((aj l0 (gV)).f0) ((aj l0 (gV)).f1) ((aj l0 (gV)).f2) ((aj l0 (gV)).f3) ((aj l0 (gV)).f4) ((aj l0 (gV)).f5) zV t124 _ A37.out).mono ?_); (rintro e w53 ⟨rfl, hb⟩); (refine ⟨_, rfl, ?_⟩); (replace pF := ah.mk (aA (EI) hb)); (replace HB := ah.mk (ak (CY) hb)); ((try clear hb)); ((try clear hb2)); ((try clear hk)); ((try clear hi)); (refine hK.out _ _ yS (fun hHeld => ?_))
                       (clear hK K); (refine fC (a' := ?_) ?_ ?_)
                       rotate_left
                       ·show Act.put _ (some 70) _ = _
                        (simp only [mM, mO, mP, mQ, dM, eu]); (rfl)
                       (refine kN (i := 10) (N := some 75) #[true, true, true, true, true, true, true, true, true, true, true, false, false, false, false, true, false, false] rfl rfl (gG bI.out (by kernel_rfl)) (by decide) (fun K hK => ?_)); (refine kD Try.func60 (by kernel_rfl) rfl #[.agg #[.int .u8 ((aj l0 aV).f0), .int .i64 ((aj l0 aV).f1), .string ((aj l0 aV).f2), .string ((aj l0 aV).f3), .string ((aj l0 aV).f4), .int .u64 ((aj l0 aV).f5)]] (by rfl) rfl rfl (by (try simp only [List.map_toArray, List.map_cons, List.map_nil]); first | done | rfl) ?_); (with_reducible refine (dK.calls ((aj l0 aV).f0) ((aj l0 aV).f1) ((aj l0 aV).f2) ((aj l0 aV).f3) ((aj l0 aV).f4) ((aj l0 aV).f5) zu t127 _ NU.out).mono ?_); (rintro e w54 ⟨rfl, hb⟩); (refine ⟨_, rfl, ?_⟩); (replace pF := ah.mk (aA (EI) hb)); (replace HB := ah.mk (ak (CY) hb)); ((try clear hb)); ((try clear hb2)); ((try clear hk)); ((try clear hi)); (refine hK.out _ _ yS (fun hHeld => ?_))
                       (clear hK K); (refine fC (a' := ?_) ?_ ?_)
                       rotate_left
                       ·show Act.put _ (some 75) _ = _
                        (simp only [mM, mO, mP, mQ, dM, eu]); (rfl)
                       (refine kN (i := 11) (N := some 76) #[true, true, true, true, true, true, true, true, true, true, true, true, false, false, false, true, false, false] rfl rfl (gG bI.out (by kernel_rfl)) (by decide) (fun K hK => ?_)); (refine kD Try.func88 (by kernel_rfl) rfl #[.agg #[.string zV, .string t124], .agg #[.string zu, .string t127]] (by rfl) rfl rfl (by (try simp only [List.map_toArray, List.map_cons, List.map_nil]); first | done | rfl) ?_); (with_reducible refine (bW.calls zV t124 zu t127 NV NW false _ A41.out).mono ?_); (rintro e w55 ⟨rfl, hb⟩); (refine ⟨_, rfl, ?_⟩); (replace pF := ah.mk (aA (EI) hb)); (replace HB := ah.mk (ak (CY) hb)); ((try clear hb)); ((try clear hb2))
                       ((try clear hk)); ((try clear hi)); (refine hK.out _ _ yS (fun hHeld => ?_)); (clear hK K); (refine fC (a' := ?_) ?_ ?_)
                       rotate_left
                       ·show Act.put _ (some 76) _ = _
                        (simp only [mM, mO, mP, mQ, dM, eu]); (rfl)
                       refine ji 12 64 #[true, true, true, true, true, true, true, true, true, true, true, true, true, false, false, true, false, false] bI.out ?_
                       refine ji 13 77 #[true, true, true, true, true, true, true, true, true, true, true, true, true, true, false, true, false, false] bI.out ?_
                       refine ji 14 78 #[true, true, true, true, true, true, true, true, true, true, true, true, true, true, true, true, false, false] bI.out ?_
                       exact fC (aaE) (oL (jT) _ ⟨hHeld, (EI), lJ.out, xH.out, (CY)⟩)
                     (rintro jT w56 ⟨hS_, Qm, Qn, Qo, Qp⟩); (have pF : ah (w56.heap[jT]? = some (.cells #[.string ⟨#[]⟩, .string ⟨#[]⟩] 48 (0, 0))) := ⟨Qm⟩); (have lJ : ah (w.heap.size ≤ jT) := ⟨Qn⟩); (have xH : ah (w.heap.size ≤ jT) := ⟨Qo⟩); (replace HB : ah (Below w.heap.size w w56) := ⟨Qp⟩); (clear Qm Qn Qo Qp)
                     have hHeld := hS_
                     refine fC (a' := ?_) ?_ ?_
                     rotate_left
                     ·simp only [sS, Act.put, List.setIfInBounds_toArray, List.set_cons_zero, List.set_cons_succ]
                      rfl
                     (refine kN (i := 16) (N := none) #[true, true, true, true, true, true, true, true, true, true, true, true, true, true, true, true, true, false] rfl rfl (gG bI.out (by kernel_rfl)) (by decide) (fun K hK => ?_)); (have aO5 : w56.cell? ⟨jT, 0, none⟩ = some (.string ⟨#[]⟩) := (b_ pF 0)); (have aM5 := dJ pF.out 0); (have aO6 : w56.cell? ⟨jT, 1, none⟩ = some (.string ⟨#[]⟩) := (b_ pF 1)); (have aM6 := dJ pF.out 1); (refine t_ (w1 := ?_) (by rfl) rfl ?_ ?_)
                     rotate_left
                     ·go_simp
                      rfl
                     refine hK.out _ _ axm (fun hHeld => ?_)
                     (clear hK K); (refine ji 17 5 #[true, true, true, true, true, true, true, true, true, true, true, true, true, true, true, true, true, true] bI.out ?_)
                     (refine lU (jh bI.out (by kernel_rfl)) ?_); (try go_wp2); (go_roundg QO)
                     case measure => have := oh.out; have := HJ2.out; have := ai7.out; have := ahF.out; omega
                     case rel => exact ⟨(wrap64 (aV + 1)), (by first | rfl | (simp; done) | (simp [*]; done)), H', ⟨axn⟩, ⟨CY⟩⟩
                   ·rw [if_neg Ry] at H
                    exact absurd H (by simp)
                  ·rw [if_neg c38] at H
                   exact absurd H (by simp)
                 ·rw [if_neg c36] at H
                  exact absurd H (by simp)
                ·rw [if_neg Vz] at H
                 exact absurd H (by simp)
               ·replace FY := Bool.eq_false_iff.mpr FY
                (subst FY); (have H1 : (au.l0 QO l0 (wrap64 (aV + 1))) = some r := by rw [if_neg (show ¬ (false = true) by decide)] at H; exact H); (clear H); (have H := H1); (clear H1); (have H' := ah.mk H); (clear H); (go_wp2); (go_roundg QO)
                case measure => have := oh.out; have := HJ2.out; have := ai7.out; have := ahF.out; omega
                case rel => exact ⟨(wrap64 (aV + 1)), (by first | rfl | (simp; done) | (simp [*]; done)), H', ⟨axn⟩, ⟨qP⟩⟩
         ·replace c11 := Bool.eq_false_iff.mpr c11
          (subst c11); (have H1 : (some false) = some r := by rw [if_neg (show ¬ (false = true) by decide)] at H; exact H); (clear H); (have H := H1); (clear H1); (obtain rfl := Option.some.inj H); (have X7 : 0 ≤ (aV : Int) := of_decide_eq_true (by first | (with_reducible assumption) | assumption)); (have X8 : aV < (l0.length : Int) := of_decide_eq_true (by first | (with_reducible assumption) | assumption)); (obtain ⟨dN, aud, FQ, FT, FU, FV, FW, FX⟩ := gJ HR0.out aV X7 X8); (cases aud); (replace FQ := gq HB FQ); (replace FT := gq HB FT); (replace FU := gq HB FU); (replace FV := gq HB FV); (replace FW := gq HB FW); (replace FX := gq HB FX); (replace X7 := eq_true X7); (replace X8 := eq_true X8)
          go_wp2_with (first | ((with_reducible refine aH (f := 60) rfl ?_); refine dD (some 30) rfl rfl Try.func60 (by kernel_rfl) rfl #[.agg #[.int .u8 ((aj l0 aV).f0), .int .i64 ((aj l0 aV).f1), .string ((aj l0 aV).f2), .string ((aj l0 aV).f3), .string ((aj l0 aV).f4), .int .u64 ((aj l0 aV).f5)]] rfl (by (try simp only [List.map_toArray, List.map_cons, List.map_nil]); first | done | rfl) ?_; (with_reducible refine (dK.calls ((aj l0 aV).f0) ((aj l0 aV).f1) ((aj l0 aV).f2) ((aj l0 aV).f3) ((aj l0 aV).f4) ((aj l0 aV).f5) acz acA _ A9.out).mono ?_); rintro e w59 ⟨rfl, hb⟩; refine ⟨_, rfl, ?_⟩; replace HB := ah.mk (ak (qP) hb); (try clear hb); (try clear hb2); (try clear hk); (try clear hi)) | ((with_reducible refine aH (f := 52) rfl ?_); refine dD (some 31) rfl rfl Try.func52 (by kernel_rfl) rfl #[.agg #[.string acz, .string acA]] rfl (by (try simp only [List.map_toArray, List.map_cons, List.map_nil]); first | done | rfl) ?_; (with_reducible refine (gK.calls acz acA false _ A10.out).mono ?_); rintro e w60 ⟨rfl, hb⟩; refine ⟨_, rfl, ?_⟩; replace HB := ah.mk (ak (qP) hb); (try clear hb); (try clear hb2); (try clear hk); (try clear hi)))
          (go_ret); (exact ⟨by first | rfl | (simp [*, bg, bn] <;> rfl), qP⟩)
        ·rw [if_neg c8] at H
         exact absurd H (by simp)
       ·rw [if_neg c7] at H
        exact absurd H (by simp)
   ·rw [if_neg c2] at H
    (have zo : decide (aV < (l0.length : Int)) = false := decide_eq_false c2); (clear c2); (obtain rfl := Option.some.inj H); (go_wp2); (go_ret); (exact ⟨by first | rfl | (simp [*, bg, bn] <;> rfl), qP⟩)

end Go.Proofs.Ytnklnjghecmihaa.L2
