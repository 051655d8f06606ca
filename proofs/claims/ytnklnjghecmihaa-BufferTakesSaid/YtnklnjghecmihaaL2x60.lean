/- tight -/ -- written by wip/myprint.py
import Derived.Test.YtnklnjghecmihaaL2x0
import Derived.Test.YtnklnjghecmihaaL2x56
import Derived.Test.YtnklnjghecmihaaL2P0
namespace Go.Proofs.Ytnklnjghecmihaa.L2
open Go.RowKit Go.Proofs.YtnklnjghecmihaaW aQ dV fP Mine
attribute [local go_sem] iM iO jk jl gW gX iP iQ iK iL dP dR dQ
set_option linter.unusedVariables false
set_option linter.unusedSimpArgs false
theorem as5 {P : Prop} (h : P := by (with_reducible repeat first | exact HB.out | apply mG | apply ni | apply ny) <;> exact HB.out) : P := h
theorem Vh {P : Prop} (h : P := by (with_reducible repeat first | apply iR | apply iT | apply iJ); exact Ea.out) : P := h
theorem Jh {P : Prop} (h : P := by (with_reducible repeat first | exact HB.out | apply mG | apply ni | apply ny | refine jW ?_ aCw.out) <;> exact HB.out) : P := h

/-! ### catchmentref04_On: function 105 -/
def dH.j0 : Nat → ByteArray → ByteArray → Bool → Int → Int → ByteArray → ByteArray → ByteArray → Int → Option (ByteArray × Bool)
 | 0, _, _, _, _, _, _, _, _, _ => none
 | k + 1, x1, x2, x3, ZO, aqh, aqi, aqj, agW, agX => (jf.f ZO aqh aqi aqj agW agX x1).bind fun aqk => (if aqk = true then (if ZO = 1 then (some (agW, true)) else (if ZO = 3 then ((iE.f k x2 x3 agX).bind fun abV => (some (abV, true))) else (some ((⟨#[]⟩ : ByteArray), false)))) else (some (x2, x3)))
def dH.f (k : Nat) (aI : Int) (aN : Int) (aW : ByteArray) (bF : ByteArray) (bP : ByteArray) (bT : Int) (a1 : ByteArray) (a2 : ByteArray) (a3 : Bool) : Option (ByteArray × Bool) := if a3 = true then (dH.j0 k a1 a2 a3 aI aN aW bF bP bT) else (dH.j0 k a1 (⟨#[]⟩ : ByteArray) a3 aI aN aW bF bP bT)
theorem dH.gB : ∀ k, (∀ y0 y1 y2 y3 y4 y5 y6 y7 y8, dO (dH.j0 k y0 y1 y2 y3 y4 y5 y6 y7 y8) (dH.j0 (k + 1) y0 y1 y2 y3 y4 y5 y6 y7 y8))
 | 0 => fun _ _ _ _ _ _ _ _ _ r h => by simp [dH.j0] at h
 | k + 1 => by
  have lS := dH.gB k
  ·intro y0 y1 y2 y3 y4 y5 y6 y7 y8
   unfold dH.j0
   repeat' (with_reducible first | exact lS _ _ _ _ _ _ _ _ _ | exact iE.mono _ _ _ _ | exact dO.refl _ | exact dO.none _ | refine dO.ite ?_ ?_ | refine dO.bind ?_ (fun _ => ?_))
theorem dH.mono : ∀ a0 a1 a2 a3 a4 a5 a6 a7 a8 k, dO (dH.f k a0 a1 a2 a3 a4 a5 a6 a7 a8) (dH.f (k + 1) a0 a1 a2 a3 a4 a5 a6 a7 a8) := by
 (intro a0 a1 a2 a3 a4 a5 a6 a7 a8 k); (have lS := dH.gB k); (unfold dH.f)
 repeat' (with_reducible first | exact lS _ _ _ _ _ _ _ _ _ | exact iE.mono _ _ _ _ | exact dO.refl _ | exact dO.none _ | refine dO.ite ?_ ?_ | refine dO.bind ?_ (fun _ => ?_))
set_option maxHeartbeats 8000000 in
set_option maxRecDepth 100000 in
theorem dH.calls (k : Nat) (aI : Int) (aN : Int) (aW : ByteArray) (bF : ByteArray) (bP : ByteArray) (bT : Int) (a1 : ByteArray) (a2 : ByteArray) (a3 : Bool) (r1 : ByteArray) (r2 : Bool) (w : World) (h : dH.f k aI aN aW bF bP bT a1 a2 a3 = some (r1, r2)) :
  Calls Try.prog 105 #[.agg #[.int .u8 aI, .int .i64 aN, .string aW, .string bF, .string bP, .int .u64 bT], .string a1, .string a2, .bool a3] w fun e w' => e = .returned (.tuple #[.string r1, .bool r2]) ∧ Below w.heap.size w w' := by
 (have vU := Try.underlying46); (have HB := ah.mk (Below.refl w.heap.size w)); (have H : (if a3 = true then (dH.j0 k a1 a2 a3 aI aN aW bF bP bT) else (dH.j0 k a1 (⟨#[]⟩ : ByteArray) a3 aI aN aW bF bP bT)) = some (r1, r2) := h); (clear h); (have HC5 := ah.mk H); (clear H); (go_enter Try.func105, Try.ntmps105)
 (go_upto_if 11 with (first | ((with_reducible refine bM (N := 4) rfl ?_); refine bU ?hg (N := 4) ?hd (cs := #[.int .u8 aI, .int .i64 aN, .string aW, .string bF, .string bP, .int .u64 bT]) (t := 46) ?hr ?_; (case hd => rfl); (case hg => rfl); (case hr => first | (go_simp; done) | (go_simp; rfl)); intro aCx hg w6 hbox hb; have Ea := ah.mk (hbox); have aCy := ah.mk (hs_ hg (as5)); replace HB := ah.mk (ak (as5) hb); have aCw := aCy; clear hb hbox hg))); ((try simp only [Act.put, List.setIfInBounds_toArray, List.set_cons_zero, List.set_cons_succ]))
 go_cut [2] (fun v2 wc => ∃ (kq : Nat) (O7 : ByteArray), v2 = .string O7 ∧ ah (dH.j0 kq a1 O7 a3 aI aN aW bF bP bT = some (r1, r2)) ∧ ah (kq ≤ k) ∧ ah (wc.heap[aCx]? = some (.cells #[.int .u8 aI, .int .i64 aN, .string aW, .string bF, .string bP, .int .u64 bT] 46 (0, 0))) ∧ ah (Below w.heap.size w wc))
 case first =>
  (have H := HC5.out); (clear HC5); (by_cases c7 : a3 = true)
  ·subst c7
   (have H1 : (dH.j0 k a1 a2 true aI aN aW bF bP bT) = some (r1, r2) := by rw [if_pos rfl] at H; exact H); (clear H); (have H := H1); (clear H1); (have H' := ah.mk H); (clear H); (go_wp2); (go_meet)
   case rel => exact ⟨_, (a2), (by first | rfl | (simp; done) | (simp [*]; done)), H', ⟨by first | omega | exact Nat.le_refl _⟩, ⟨Vh⟩, ⟨Jh⟩⟩
  ·replace c7 := Bool.eq_false_iff.mpr c7
   (subst c7); (have H1 : (dH.j0 k a1 (⟨#[]⟩ : ByteArray) false aI aN aW bF bP bT) = some (r1, r2) := by rw [if_neg (show ¬ (false = true) by decide)] at H; exact H); (clear H); (have H := H1); (clear H1); (have H' := ah.mk H); (clear H); (go_wp2); (go_meet)
   case rel => exact ⟨_, ((⟨#[]⟩ : ByteArray)), (by first | rfl | (simp; done) | (simp [*]; done)), H', ⟨by first | omega | exact Nat.le_refl _⟩, ⟨Vh⟩, ⟨Jh⟩⟩
 case rest =>
  (clear HC5); (try clear c1); (try clear p2); (try clear c7); (obtain ⟨kq, O7, rfl, HA, HJ4, Ea, HB⟩ := hcut)
  cases kq with
  | zero => exact absurd HA.out (by simp [dH.j0])
  | succ RZ =>
   (have H := HA.out); (clear HA); (simp only [dH.j0] at H); (replace H := Option.bind_eq_some_iff.mp H); (obtain ⟨aqk, Wp, H⟩ := H); (replace H : (if aqk = true then (if aI = 1 then (some (bP, true)) else (if aI = 3 then ((iE.f RZ O7 a3 bT).bind fun abV => (some (abV, true))) else (some ((⟨#[]⟩ : ByteArray), false)))) else (some (O7, a3))) = some (r1, r2) := H); (have A8 := ah.mk Wp); (clear Wp); (by_cases c9 : aqk = true)
   ·subst c9
    (have H1 : (if aI = 1 then (some (bP, true)) else (if aI = 3 then ((iE.f RZ O7 a3 bT).bind fun abV => (some (abV, true))) else (some ((⟨#[]⟩ : ByteArray), false)))) = some (r1, r2) := by rw [if_pos rfl] at H; exact H); (clear H); (have H := H1); (clear H1); (by_cases c10 : aI = 1)
    ·rw [if_pos c10] at H
     (have vV : (aI == 1) = true := beq_iff_eq.mpr c10); (have abp : (aI != 1) = false := bne_eq_false_iff_eq.mpr c10); (clear c10); (simp only [Option.some.injEq, Prod.mk.injEq] at H); (obtain ⟨rfl, rfl⟩ := H); (obtain ⟨XK, XL, afN, afO, afP, afQ, XM, XO, afR, afS, afT, afU⟩ := iy Ea)
     go_wp2_with (first | ((with_reducible refine aH (f := 61) rfl ?_); refine dD (some 14) rfl rfl Try.func61 (by kernel_rfl) rfl #[.agg #[.int .u8 aI, .int .i64 aN, .string aW, .string bF, .string bP, .int .u64 bT], .string a1] rfl (by (try simp only [List.map_toArray, List.map_cons, List.map_nil]); first | done | rfl) ?_; (with_reducible refine (jf.calls aI aN aW bF bP bT a1 true _ A8.out).mono ?_); rintro e w12 ⟨rfl, hb⟩; refine ⟨_, rfl, ?_⟩; replace Ea := ah.mk (aA (Vh) hb); replace HB := ah.mk (ak (Jh) hb); (try clear hb); (try clear hb2); (try clear hk); (try clear hi); obtain ⟨adP, adQ, amg, amh, ami, amj, adR, adS, amk, aml, amm, amn⟩ := iy Ea))
     (go_ret2); (exact ⟨by first | rfl | (simp [*, bg, bn] <;> rfl), Jh⟩)
    ·rw [if_neg c10] at H
     (have vV : (aI == 1) = false := beq_eq_false_iff_ne.mpr c10); (have abp : (aI != 1) = true := bne_iff_ne.mpr c10); (by_cases c14 : aI = 3)
     ·rw [if_pos c14] at H
      (have LV : (aI == 3) = true := beq_iff_eq.mpr c14); (have akz : (aI != 3) = false := bne_eq_false_iff_eq.mpr c14); (clear c14); (replace H := Option.bind_eq_some_iff.mp H); (obtain ⟨abV, alz, H⟩ := H); (replace H : (some (abV, true)) = some (r1, r2) := H); (have A15 := ah.mk alz); (clear alz); (simp only [Option.some.injEq, Prod.mk.injEq] at H); (obtain ⟨rfl, rfl⟩ := H); (obtain ⟨XP, XQ, XR, XT, XU, XV, XW, XY, XZ, X0, X3, X4⟩ := iy Ea)
      go_wp2_with (first | ((with_reducible refine aH (f := 61) rfl ?_); refine dD (some 14) rfl rfl Try.func61 (by kernel_rfl) rfl #[.agg #[.int .u8 aI, .int .i64 aN, .string aW, .string bF, .string bP, .int .u64 bT], .string a1] rfl (by (try simp only [List.map_toArray, List.map_cons, List.map_nil]); first | done | rfl) ?_; (with_reducible refine (jf.calls aI aN aW bF bP bT a1 true _ A8.out).mono ?_); rintro e w17 ⟨rfl, hb⟩; refine ⟨_, rfl, ?_⟩; replace Ea := ah.mk (aA (Vh) hb); replace HB := ah.mk (ak (Jh) hb); (try clear hb); (try clear hb2); (try clear hk); (try clear hi); obtain ⟨Xz, XA, adT, adU, adV, adW, XB, XC, adX, adY, adZ, ad1⟩ := iy Ea) | ((with_reducible refine aH (f := 143) rfl ?_); refine dD (some 30) rfl rfl Try.func143 (by kernel_rfl) rfl #[.string O7, .bool a3, .int .u64 bT] rfl (by (try simp only [List.map_toArray, List.map_cons, List.map_nil]); first | done | rfl) ?_; (with_reducible refine (iE.calls RZ O7 a3 bT abV _ A15.out).mono ?_); rintro e w19 ⟨rfl, hb⟩; refine ⟨_, rfl, ?_⟩; replace Ea := ah.mk (aA (Vh) hb); replace HB := ah.mk (ak (Jh) hb); (try clear hb); (try clear hb2); (try clear hk); (try clear hi)))
      (go_ret2); (exact ⟨by first | rfl | (simp [*, bg, bn] <;> rfl), Jh⟩)
     ·rw [if_neg c14] at H
      (have LV : (aI == 3) = false := beq_eq_false_iff_ne.mpr c14); (have akz : (aI != 3) = true := bne_iff_ne.mpr c14); (simp only [Option.some.injEq, Prod.mk.injEq] at H); (obtain ⟨rfl, rfl⟩ := H); (obtain ⟨Bo, Bq, Dw, Dx, Dy, Dz, Bv, Bz, DC, DF, DI, DJ⟩ := iy Ea)
      go_wp2_with (first | ((with_reducible refine aH (f := 61) rfl ?_); refine dD (some 14) rfl rfl Try.func61 (by kernel_rfl) rfl #[.agg #[.int .u8 aI, .int .i64 aN, .string aW, .string bF, .string bP, .int .u64 bT], .string a1] rfl (by (try simp only [List.map_toArray, List.map_cons, List.map_nil]); first | done | rfl) ?_; (with_reducible refine (jf.calls aI aN aW bF bP bT a1 true _ A8.out).mono ?_); rintro e w21 ⟨rfl, hb⟩; refine ⟨_, rfl, ?_⟩; replace Ea := ah.mk (aA (Vh) hb); replace HB := ah.mk (ak (Jh) hb); (try clear hb); (try clear hb2); (try clear hk); (try clear hi); obtain ⟨GR, GU, KX, KY, KZ, K_, GV, GX, La, Lc, Ld, Le⟩ := iy Ea))
      (go_ret2); (exact ⟨by first | rfl | (simp [*, bg, bn] <;> rfl), Jh⟩)
   ·replace c9 := Bool.eq_false_iff.mpr c9
    (subst c9); (have H1 : (some (O7, a3)) = some (r1, r2) := by rw [if_neg (show ¬ (false = true) by decide)] at H; exact H); (clear H); (have H := H1); (clear H1); (simp only [Option.some.injEq, Prod.mk.injEq] at H); (obtain ⟨rfl, rfl⟩ := H); (obtain ⟨Rh, Ri, Rj, Rk, Rl, Rn, Ro, Rq, Rt, Ru, Rw, Rx⟩ := iy Ea)
    (go_wp2_with (first | ((with_reducible refine aH (f := 61) rfl ?_); refine dD (some 14) rfl rfl Try.func61 (by kernel_rfl) rfl #[.agg #[.int .u8 aI, .int .i64 aN, .string aW, .string bF, .string bP, .int .u64 bT], .string a1] rfl (by (try simp only [List.map_toArray, List.map_cons, List.map_nil]); first | done | rfl) ?_; (with_reducible refine (jf.calls aI aN aW bF bP bT a1 false _ A8.out).mono ?_); rintro e w24 ⟨rfl, hb⟩; refine ⟨_, rfl, ?_⟩; replace Ea := ah.mk (aA (Vh) hb); replace HB := ah.mk (ak (Jh) hb); (try clear hb); (try clear hb2); (try clear hk); (try clear hi)))); (go_ret2)
    exact ⟨by first | rfl | (simp [*, bg, bn] <;> rfl), Jh⟩

end Go.Proofs.Ytnklnjghecmihaa.L2
