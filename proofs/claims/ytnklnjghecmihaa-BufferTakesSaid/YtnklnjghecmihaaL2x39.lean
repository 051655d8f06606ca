/- tight -/ -- written by wip/myprint.py
import Derived.Test.YtnklnjghecmihaaL2x0
import Derived.Test.YtnklnjghecmihaaL2x17
import Derived.Test.YtnklnjghecmihaaL2P0
import Derived.Test.YtnklnjghecmihaaL2x30
import Derived.Test.YtnklnjghecmihaaL2x38
namespace Go.Proofs.Ytnklnjghecmihaa.L2
open Go.RowKit Go.Proofs.YtnklnjghecmihaaW aQ dV fP Mine
attribute [local go_sem] iM iO jk jl gW gX iP iQ iK iL dP dR dQ
set_option linter.unusedVariables false
set_option linter.unusedSimpArgs false
theorem afY {P : Prop} (h : P := by (with_reducible repeat first | exact HB.out | apply mG | apply ni | apply ny) <;> exact HB.out) : P := h
theorem akW {P : Prop} (h : P := by (with_reducible repeat first | apply iR | apply iT | apply iJ); refine bJ (cs := #[.int .u8 ((aj l0 bK).f0), .int .i64 ((aj l0 bK).f1), .string ((aj l0 bK).f2), .string ((aj l0 bK).f3), .string ((aj l0 bK).f4), .int .u64 0]) ?_ 5 _ rfl; (with_reducible repeat first | apply iR | apply iT | apply iJ); refine bJ (cs := #[.int .u8 ((aj l0 bK).f0), .int .i64 ((aj l0 bK).f1), .string ((aj l0 bK).f2), .string ((aj l0 bK).f3), .string ⟨#[]⟩, .int .u64 0]) ?_ 4 _ rfl; (with_reducible repeat first | apply iR | apply iT | apply iJ); refine bJ (cs := #[.int .u8 ((aj l0 bK).f0), .int .i64 ((aj l0 bK).f1), .string ((aj l0 bK).f2), .string ⟨#[]⟩, .string ⟨#[]⟩, .int .u64 0]) ?_ 3 _ rfl; (with_reducible repeat first | apply iR | apply iT | apply iJ); refine bJ (cs := #[.int .u8 ((aj l0 bK).f0), .int .i64 ((aj l0 bK).f1), .string ⟨#[]⟩, .string ⟨#[]⟩, .string ⟨#[]⟩, .int .u64 0]) ?_ 2 _ rfl; (with_reducible repeat first | apply iR | apply iT | apply iJ); refine bJ (cs := #[.int .u8 ((aj l0 bK).f0), .int .i64 0, .string ⟨#[]⟩, .string ⟨#[]⟩, .string ⟨#[]⟩, .int .u64 0]) ?_ 1 _ rfl; (with_reducible repeat first | apply iR | apply iT | apply iJ); refine bJ (cs := #[.int .u8 0, .int .i64 0, .string ⟨#[]⟩, .string ⟨#[]⟩, .string ⟨#[]⟩, .int .u64 0]) ?_ 0 _ rfl; (with_reducible repeat first | apply iR | apply iT | apply iJ); exact kG.out) : P := h
theorem wO {P : Prop} (h : P := by (with_reducible repeat first | exact HB.out | apply mG | apply ni | apply ny | refine jW ?_ aAQ.out) <;> exact HB.out) : P := h
theorem EZ {P : Prop} (h : P := by (with_reducible repeat first | apply iR | apply iT | apply iJ); exact kG.out) : P := h
theorem ase {P : Prop} (h : P := by rintro w' ⟨⟨s0, s1, s2, s3, s4, s5⟩, ⟨s6, s7, s8, s9, s10, s11⟩⟩; go_simp; with_reducible rfl) : P := h
theorem WO {P : Prop} (h : P := by rintro w' ⟨⟨s0, s1, s2, s3, s4, s5⟩, ⟨s6, s7, s8, s9, s10, s11⟩, ⟨s12, s13, s14, s15, s16, s17⟩, ⟨s18, s19, s20, s21, s22, s23⟩⟩; go_simp; with_reducible rfl) : P := h
theorem asf {P : Prop} (h : P := by exact ⟨(Lr kG), (EC HB ⟨DW, DX, DY, DZ, D5, D6⟩), (EC HB ⟨OD, OE, OG, OH, OI, OJ⟩), (EC HB ⟨afZ, af0, af2, af4, af5, af6⟩)⟩) : P := h
theorem af7 {P : Prop} (h : P := by rintro w' ⟨⟨s0, s1, s2, s3, s4, s5⟩, ⟨s6, s7, s8, s9, s10, s11⟩, ⟨s12, s13, s14, s15, s16, s17⟩⟩; go_simp; with_reducible rfl) : P := h

/-! ### buffer_Right: function 35 -/
mutual
def aG.l0 : Nat → List (bC) → List (bC) → Int → Int → Option (Bool)
 | 0, _, _, _, _ => none
 | k + 1, x0, x5, x6, x7 => if x7 < x6 then (if 0 ≤ x7 then (if x7 < (x5.length : Int) then ((iH.f ((aj x5 x7).f0) ((aj x5 x7).f1) ((aj x5 x7).f2) ((aj x5 x7).f3) ((aj x5 x7).f4) ((aj x5 x7).f5)).bind fun apB => (if apB = true then (aG.j1 k x0 x7 x5 x6 x7 false ((aj x5 x7).f0) ((aj x5 x7).f1) ((aj x5 x7).f2) ((aj x5 x7).f3) ((aj x5 x7).f4) ((aj x5 x7).f5)) else (if ((aj x5 x7).f0) = 4 then ((jm.f ((aj x5 x7).f0) ((aj x5 x7).f1) ((aj x5 x7).f2) ((aj x5 x7).f3) ((aj x5 x7).f4) ((aj x5 x7).f5)).bind fun QC => ((eH.f QC.1 QC.2).bind fun U5 => (aG.j1 k x0 x7 x5 x6 x7 (!U5) ((aj x5 x7).f0) ((aj x5 x7).f1) ((aj x5 x7).f2) ((aj x5 x7).f3) ((aj x5 x7).f4) ((aj x5 x7).f5)))) else (aG.j1 k x0 x7 x5 x6 x7 true ((aj x5 x7).f0) ((aj x5 x7).f1) ((aj x5 x7).f2) ((aj x5 x7).f3) ((aj x5 x7).f4) ((aj x5 x7).f5))))) else (none)) else (none)) else (some true)
def aG.j1 : Nat → List (bC) → Int → List (bC) → Int → Int → Bool → Int → Int → ByteArray → ByteArray → ByteArray → Int → Option (Bool)
 | 0, _, _, _, _, _, _, _, _, _, _, _, _ => none
 | k + 1, x0, x3, x5, x6, x7, x25, af8, Zt, af9, af_, aga, agb => if x25 = true then (some false) else (if x3 > 0 then (if 0 ≤ (wrap64 (x3 - 1)) then (if (wrap64 (x3 - 1)) < (x0.length : Int) then ((bV.f k ((aj x0 (wrap64 (x3 - 1))).f0) ((aj x0 (wrap64 (x3 - 1))).f1) ((aj x0 (wrap64 (x3 - 1))).f2) ((aj x0 (wrap64 (x3 - 1))).f3) ((aj x0 (wrap64 (x3 - 1))).f4) ((aj x0 (wrap64 (x3 - 1))).f5) af8 Zt af9 af_ aga agb).bind fun PX => (if PX ≥ 0 then (aG.j2 k x0 x5 x6 x7 true) else (if ((aj x0 (wrap64 (x3 - 1))).f1) = Zt then ((oq.f ((aj x0 (wrap64 (x3 - 1))).f0) ((aj x0 (wrap64 (x3 - 1))).f1) ((aj x0 (wrap64 (x3 - 1))).f2) ((aj x0 (wrap64 (x3 - 1))).f3) ((aj x0 (wrap64 (x3 - 1))).f4) ((aj x0 (wrap64 (x3 - 1))).f5) af8 Zt af9 af_ aga agb).bind fun U6 => (aG.j2 k x0 x5 x6 x7 (!U6))) else (aG.j2 k x0 x5 x6 x7 false)))) else (none)) else (none)) else (aG.j2 k x0 x5 x6 x7 false))
def aG.j2 : Nat → List (bC) → List (bC) → Int → Int → Bool → Option (Bool)
 | 0, _, _, _, _, _ => none
 | k + 1, x0, x5, x6, x7, x58 => if x58 = true then (some false) else (aG.l0 k x0 x5 x6 (wrap64 (x7 + 1)))
end
def aG.f (k : Nat) (l0 : List (bC)) : Option (Bool) := aG.l0 k l0 l0 (l0.length : Int) 0
theorem aG.gB : ∀ k, (∀ y0 y1 y2 y3, dO (aG.l0 k y0 y1 y2 y3) (aG.l0 (k + 1) y0 y1 y2 y3)) ∧ (∀ y0 y1 y2 y3 y4 y5 y6 y7 y8 y9 y10 y11, dO (aG.j1 k y0 y1 y2 y3 y4 y5 y6 y7 y8 y9 y10 y11) (aG.j1 (k + 1) y0 y1 y2 y3 y4 y5 y6 y7 y8 y9 y10 y11)) ∧ (∀ y0 y1 y2 y3 y4, dO (aG.j2 k y0 y1 y2 y3 y4) (aG.j2 (k + 1) y0 y1 y2 y3 y4))
 | 0 => ⟨fun _ _ _ _ r h => by simp [aG.l0] at h, fun _ _ _ _ _ _ _ _ _ _ _ _ r h => by simp [aG.j1] at h, fun _ _ _ _ _ r h => by simp [aG.j2] at h⟩
 | k + 1 => by
  obtain ⟨lS, ih1, ih2⟩ := aG.gB k
  refine ⟨?_, ?_, ?_⟩
  ·intro y0 y1 y2 y3
   unfold aG.l0
   repeat' (with_reducible first | exact lS _ _ _ _ | exact ih1 _ _ _ _ _ _ _ _ _ _ _ _ | exact ih2 _ _ _ _ _ | exact bV.mono _ _ _ _ _ _ _ _ _ _ _ _ _ | exact dO.refl _ | exact dO.none _ | refine dO.ite ?_ ?_ | refine dO.bind ?_ (fun _ => ?_))
  ·intro y0 y1 y2 y3 y4 y5 y6 y7 y8 y9 y10 y11
   unfold aG.j1
   repeat' (with_reducible first | exact lS _ _ _ _ | exact ih1 _ _ _ _ _ _ _ _ _ _ _ _ | exact ih2 _ _ _ _ _ | exact bV.mono _ _ _ _ _ _ _ _ _ _ _ _ _ | exact dO.refl _ | exact dO.none _ | refine dO.ite ?_ ?_ | refine dO.bind ?_ (fun _ => ?_))
  ·intro y0 y1 y2 y3 y4
   unfold aG.j2
   repeat' (with_reducible first | exact lS _ _ _ _ | exact ih1 _ _ _ _ _ _ _ _ _ _ _ _ | exact ih2 _ _ _ _ _ | exact bV.mono _ _ _ _ _ _ _ _ _ _ _ _ _ | exact dO.refl _ | exact dO.none _ | refine dO.ite ?_ ?_ | refine dO.bind ?_ (fun _ => ?_))
theorem aG.mono : ∀ a0 k, dO (aG.f k a0) (aG.f (k + 1) a0) := by
 (intro a0 k); (obtain ⟨lS, ih1, ih2⟩ := aG.gB k); (unfold aG.f)
 repeat' (with_reducible first | exact lS _ _ _ _ | exact ih1 _ _ _ _ _ _ _ _ _ _ _ _ | exact ih2 _ _ _ _ _ | exact bV.mono _ _ _ _ _ _ _ _ _ _ _ _ _ | exact dO.refl _ | exact dO.none _ | refine dO.ite ?_ ?_ | refine dO.bind ?_ (fun _ => ?_))
def aG.T6 : Bool × List (List Nat × List Nat) := (true, [([], []), ([0], [0]), ([1], [1]), ([2], [2]), ([2], [2]), ([4, 2], [2, 4]), ([3, 5, 2], [2, 3, 5]), ([6, 2], [2, 6]), ([2], [2]), ([7, 8, 2, 2], [2, 7, 8]), ([9, 2], [2, 9]), ([10, 9, 2], [2, 10]), ([11], [11]), ([11], [11]), ([13, 11], [11, 13]), ([12, 14, 11], [11, 12, 14]), ([15, 11], [11, 15]), ([16, 11], [11, 16]), ([11], [11]), ([18, 11], [11, 18]), ([17, 19, 11], [11, 17, 19]), ([20, 11, 11], [11, 20]), ([21], [21]), ([21], [21]), ([23, 21], [21, 23]), ([22, 24, 21], [21, 22, 24]), ([25, 21], [21, 25]), ([21], [21]), ([26, 27, 21, 21], [21, 26, 27]), ([28, 21], [21, 28]), ([21, 29, 11], [11, 21, 29]), ([11, 30, 2], [2, 11, 30]), ([2, 31], [2, 31])])
def aG.B6 : List Nat := [0, 1, 3, 7, 7, 23, 63, 127, 7, 511, 1023, 2047, 4095, 4095, 12287, 32767, 65535, 131071, 4095, 266239, 1048575, 2097151, 4194303, 4194303, 12582911, 33554431, 67108863, 4194303, 268435455, 536870911, 1073741823, 2147483647, 4294967295]
theorem aG.tab6 : nX .any (opsOf Try.f35 6) = aG.T6 := by kernel_rfl
theorem aG.Qr : kH aG.T6.2 aG.B6 = true := by kernel_rfl
set_option maxHeartbeats 8000000 in
set_option maxRecDepth 100000 in
theorem aG.calls (k : Nat) (A0 : Option Addr) (c0 : Nat) (l0 : List (bC)) (r : Bool) (w : World) (hr0 : Kd.C k46 w A0 l0.length l0) (hc0 : l0.length ≤ c0) (h : aG.f k l0 = some r) :
  Calls Try.prog 35 #[.slice A0 l0.length c0] w fun e w' => e = .returned (.bool r) ∧ Below w.heap.size w w' := by
 (have vU := Try.underlying46); (have HR0 := ah.mk hr0); (have QK := ah.mk hc0); (clear hr0 hc0); (have HB := ah.mk (Below.refl w.heap.size w)); (have H : (aG.l0 k l0 l0 (l0.length : Int) 0) = some r := h); (clear h); (have H' := ah.mk H); (clear H); (go_enter Try.func35, Try.ntmps35); (go_wp2); (go_loopg [7] k (fun kq v7 w' => ∃ (bK : Int), v7 = .int .i64 bK ∧ ah (aG.l0 kq l0 l0 (l0.length : Int) bK = some r) ∧ ah (kq ≤ k) ∧ ah (Below w.heap.size w w')))
 case atStart => exact ⟨(0), (by first | rfl | (simp; done) | (simp [*]; done)), H', ⟨Nat.le_refl _⟩, ⟨afY⟩⟩
 case round =>
  (clear H'); (obtain ⟨bK, rfl, HA, oh, HB⟩ := hrel)
  cases gk with
  | zero => exact absurd HA.out (by simp [aG.l0])
  | succ k1 =>
   (have H := HA.out); (clear HA); (simp only [aG.l0] at H); (by_cases c2 : bK < (l0.length : Int))
   ·rw [if_pos c2] at H
    (have zo : decide (bK < (l0.length : Int)) = true := decide_eq_true c2); (clear c2); (by_cases c3 : 0 ≤ bK)
    ·rw [if_pos c3] at H
     (have zn : decide (0 ≤ bK) = true := decide_eq_true c3); (clear c3); (by_cases c4 : bK < (l0.length : Int))
     ·rw [if_pos c4] at H
      (have uG : decide (bK < (l0.length : Int)) = true := decide_eq_true c4); (clear c4); (have HC5 := ah.mk H); (clear H); (have apC : 0 ≤ (bK : Int) := of_decide_eq_true (by first | (with_reducible assumption) | assumption)); (have apD : bK < (l0.length : Int) := of_decide_eq_true (by first | (with_reducible assumption) | assumption)); (obtain ⟨H6, e274, Zu, Zv, Zw, Zx, Zy, Zz⟩ := gJ HR0.out bK apC apD); (cases e274); (replace Zu := gq HB Zu); (replace Zv := gq HB Zv); (replace Zw := gq HB Zw); (replace Zx := gq HB Zx); (replace Zy := gq HB Zy); (replace Zz := gq HB Zz); (replace apC := eq_true apC); (replace apD := eq_true apD)
      go_upto_region 4 with (first | ((with_reducible refine bM (N := 4) rfl ?_); refine bU ?hg (N := 4) ?hd (cs := #[.int .u8 0, .int .i64 0, .string ⟨#[]⟩, .string ⟨#[]⟩, .string ⟨#[]⟩, .int .u64 0]) (t := 46) ?hr ?_; (case hd => rfl); (case hg => rfl); (case hr => first | (go_simp; done) | (go_simp; rfl)); intro D7 hg w6 hbox hb; have kG := ah.mk (hbox); have aAR := ah.mk (hs_ hg (afY)); replace HB := ah.mk (ak (afY) hb); have aAQ := aAR; clear hb hbox hg; obtain ⟨TF, TG, TI, TJ, TK, TL, TM, TN, TP, TQ, TR, TS⟩ := iy kG))
      ((try simp only [Act.put, List.setIfInBounds_toArray, List.set_cons_zero, List.set_cons_succ])); (go_cut [25] (fun v25 wc => ∃ (kq : Nat) (agc : Bool), v25 = .bool agc ∧ ah (aG.j1 kq l0 bK l0 (l0.length : Int) bK agc ((aj l0 bK).f0) ((aj l0 bK).f1) ((aj l0 bK).f2) ((aj l0 bK).f3) ((aj l0 bK).f4) ((aj l0 bK).f5) = some r) ∧ ah (kq ≤ k1) ∧ ah (wc.heap[D7]? = some (.cells #[.int .u8 ((aj l0 bK).f0), .int .i64 ((aj l0 bK).f1), .string ((aj l0 bK).f2), .string ((aj l0 bK).f3), .string ((aj l0 bK).f4), .int .u64 ((aj l0 bK).f5)] 46 (0, 0))) ∧ ah (Below w.heap.size w wc)))
      case first =>
       (have H := HC5.out); (clear HC5); (replace H := Option.bind_eq_some_iff.mp H); (obtain ⟨apB, Wp, H⟩ := H); (replace H : (if apB = true then (aG.j1 k1 l0 bK l0 (l0.length : Int) bK false ((aj l0 bK).f0) ((aj l0 bK).f1) ((aj l0 bK).f2) ((aj l0 bK).f3) ((aj l0 bK).f4) ((aj l0 bK).f5)) else (if ((aj l0 bK).f0) = 4 then ((jm.f ((aj l0 bK).f0) ((aj l0 bK).f1) ((aj l0 bK).f2) ((aj l0 bK).f3) ((aj l0 bK).f4) ((aj l0 bK).f5)).bind fun QC => ((eH.f QC.1 QC.2).bind fun U5 => (aG.j1 k1 l0 bK l0 (l0.length : Int) bK (!U5) ((aj l0 bK).f0) ((aj l0 bK).f1) ((aj l0 bK).f2) ((aj l0 bK).f3) ((aj l0 bK).f4) ((aj l0 bK).f5)))) else (aG.j1 k1 l0 bK l0 (l0.length : Int) bK true ((aj l0 bK).f0) ((aj l0 bK).f1) ((aj l0 bK).f2) ((aj l0 bK).f3) ((aj l0 bK).f4) ((aj l0 bK).f5)))) = some r := H); (have A8 := ah.mk Wp); (clear Wp); (by_cases c9 : apB = true)
       ·subst c9
        (have H1 : (aG.j1 k1 l0 bK l0 (l0.length : Int) bK false ((aj l0 bK).f0) ((aj l0 bK).f1) ((aj l0 bK).f2) ((aj l0 bK).f3) ((aj l0 bK).f4) ((aj l0 bK).f5)) = some r := by rw [if_pos rfl] at H; exact H); (clear H); (have H := H1); (clear H1); (have H' := ah.mk H); (clear H); (have FH : w6.cell? ⟨D7, 0, none⟩ = some (.int .u8 0) := (b_ kG 0)); (have FI : w6.cell? ⟨D7, 1, none⟩ = some (.int .i64 0) := (b_ kG 1)); (have JA : w6.cell? ⟨D7, 2, none⟩ = some (.string ⟨#[]⟩) := (b_ kG 2)); (have JB : w6.cell? ⟨D7, 3, none⟩ = some (.string ⟨#[]⟩) := (b_ kG 3)); (have JC : w6.cell? ⟨D7, 4, none⟩ = some (.string ⟨#[]⟩) := (b_ kG 4)); (have JD : w6.cell? ⟨D7, 5, none⟩ = some (.int .u64 0) := (b_ kG 5)); (have FM := dJ kG.out 0); (have FN := dJ kG.out 1); (have JE := dJ kG.out 2); (have JF := dJ kG.out 3); (have JG := dJ kG.out 4)
        have JH := dJ kG.out 5
        go_wp2_with (first | ((with_reducible refine aH (f := 97) rfl ?_); refine dD (some 13) rfl rfl Try.func97 (by kernel_rfl) rfl #[.agg #[.int .u8 ((aj l0 bK).f0), .int .i64 ((aj l0 bK).f1), .string ((aj l0 bK).f2), .string ((aj l0 bK).f3), .string ((aj l0 bK).f4), .int .u64 ((aj l0 bK).f5)]] rfl (by (try simp only [List.map_toArray, List.map_cons, List.map_nil]); first | done | rfl) ?_; (with_reducible refine (iH.calls ((aj l0 bK).f0) ((aj l0 bK).f1) ((aj l0 bK).f2) ((aj l0 bK).f3) ((aj l0 bK).f4) ((aj l0 bK).f5) true _ A8.out).mono ?_); rintro e w11 ⟨rfl, hb⟩; refine ⟨_, rfl, ?_⟩; replace kG := ah.mk (aA (g := D7) (o := .cells #[.int .u8 ((aj l0 bK).f0), .int .i64 ((aj l0 bK).f1), .string ((aj l0 bK).f2), .string ((aj l0 bK).f3), .string ((aj l0 bK).f4), .int .u64 ((aj l0 bK).f5)] 46 (0, 0)) (akW) hb); replace HB := ah.mk (ak (wO) hb); (try clear hb); (try clear hb2); (try clear hk); (try clear hi)))
        go_meet
        case rel => exact ⟨_, (false), (by first | rfl | (simp; done) | (simp [*]; done)), H', ⟨by have := oh.out; first | omega | exact Nat.le_refl _⟩, ⟨EZ⟩, ⟨wO⟩⟩
       ·replace c9 := Bool.eq_false_iff.mpr c9
        (subst c9); (have H1 : (if ((aj l0 bK).f0) = 4 then ((jm.f ((aj l0 bK).f0) ((aj l0 bK).f1) ((aj l0 bK).f2) ((aj l0 bK).f3) ((aj l0 bK).f4) ((aj l0 bK).f5)).bind fun QC => ((eH.f QC.1 QC.2).bind fun U5 => (aG.j1 k1 l0 bK l0 (l0.length : Int) bK (!U5) ((aj l0 bK).f0) ((aj l0 bK).f1) ((aj l0 bK).f2) ((aj l0 bK).f3) ((aj l0 bK).f4) ((aj l0 bK).f5)))) else (aG.j1 k1 l0 bK l0 (l0.length : Int) bK true ((aj l0 bK).f0) ((aj l0 bK).f1) ((aj l0 bK).f2) ((aj l0 bK).f3) ((aj l0 bK).f4) ((aj l0 bK).f5))) = some r := by rw [if_neg (show ¬ (false = true) by decide)] at H; exact H); (clear H); (have H := H1); (clear H1); (by_cases c12 : ((aj l0 bK).f0) = 4)
        ·rw [if_pos c12] at H
         (have uf : (((aj l0 bK).f0) == 4) = true := beq_iff_eq.mpr c12); (have TW : (((aj l0 bK).f0) != 4) = false := bne_eq_false_iff_eq.mpr c12); (clear c12); ((first | rw [uf] | (simp only [dM, eu]; rw [uf]) | skip)); (replace H := Option.bind_eq_some_iff.mp H); (obtain ⟨⟨avu, avv⟩, Ui, H⟩ := H); (replace H : ((eH.f avu avv).bind fun U5 => (aG.j1 k1 l0 bK l0 (l0.length : Int) bK (!U5) ((aj l0 bK).f0) ((aj l0 bK).f1) ((aj l0 bK).f2) ((aj l0 bK).f3) ((aj l0 bK).f4) ((aj l0 bK).f5))) = some r := H); (have A13 := ah.mk Ui); (clear Ui); (replace H := Option.bind_eq_some_iff.mp H); (obtain ⟨U5, aaL, H⟩ := H); (replace H : (aG.j1 k1 l0 bK l0 (l0.length : Int) bK (!U5) ((aj l0 bK).f0) ((aj l0 bK).f1) ((aj l0 bK).f2) ((aj l0 bK).f3) ((aj l0 bK).f4) ((aj l0 bK).f5)) = some r := H); (have A14 := ah.mk aaL); (clear aaL); (have H' := ah.mk H); (clear H); (obtain ⟨RS, RU, agd, agf, agh, agi, RV, RX, agj, agk, agl, agm⟩ := iy kG)
         go_wp2_with (first | ((with_reducible refine aH (f := 97) rfl ?_); refine dD (some 13) rfl rfl Try.func97 (by kernel_rfl) rfl #[.agg #[.int .u8 ((aj l0 bK).f0), .int .i64 ((aj l0 bK).f1), .string ((aj l0 bK).f2), .string ((aj l0 bK).f3), .string ((aj l0 bK).f4), .int .u64 ((aj l0 bK).f5)]] rfl (by (try simp only [List.map_toArray, List.map_cons, List.map_nil]); first | done | rfl) ?_; (with_reducible refine (iH.calls ((aj l0 bK).f0) ((aj l0 bK).f1) ((aj l0 bK).f2) ((aj l0 bK).f3) ((aj l0 bK).f4) ((aj l0 bK).f5) false _ A8.out).mono ?_); rintro e w16 ⟨rfl, hb⟩; refine ⟨_, rfl, ?_⟩; replace kG := ah.mk (aA (g := D7) (o := .cells #[.int .u8 ((aj l0 bK).f0), .int .i64 ((aj l0 bK).f1), .string ((aj l0 bK).f2), .string ((aj l0 bK).f3), .string ((aj l0 bK).f4), .int .u64 ((aj l0 bK).f5)] 46 (0, 0)) (akW) hb); replace HB := ah.mk (ak (wO) hb); (try clear hb); (try clear hb2); (try clear hk); (try clear hi); obtain ⟨wH, wJ, Gu, Gv, Gw, Gx, wK, wL, Gy, Gz, GH, GI⟩ := iy kG) | (go_at_call 99; (with_reducible refine (jm.calls ((aj l0 bK).f0) ((aj l0 bK).f1) ((aj l0 bK).f2) ((aj l0 bK).f3) ((aj l0 bK).f4) ((aj l0 bK).f5) avu avv _ A13.out).mono ?_); rintro e w18 ⟨rfl, hb⟩; replace kG := ah.mk (aA (EZ) hb); replace HB := ah.mk (ak (wO) hb); (try clear hb); (try clear hb2); (try clear hk); (try clear hi)) | (go_at_call 98; (with_reducible refine (eH.calls avu avv U5 _ A14.out).mono ?_); rintro e w19 ⟨rfl, hb⟩; replace kG := ah.mk (aA (EZ) hb); replace HB := ah.mk (ak (wO) hb); (try clear hb); (try clear hb2); (try clear hk); (try clear hi)))
         go_meet
         case rel => exact ⟨_, (!U5), (by first | rfl | (simp; done) | (simp [*]; done)), H', ⟨by have := oh.out; first | omega | exact Nat.le_refl _⟩, ⟨EZ⟩, ⟨wO⟩⟩
        ·rw [if_neg c12] at H
         (have uf : (((aj l0 bK).f0) == 4) = false := beq_eq_false_iff_ne.mpr c12); (have TW : (((aj l0 bK).f0) != 4) = true := bne_iff_ne.mpr c12); ((first | rw [uf] | (simp only [dM, eu]; rw [uf]) | skip)); (have H' := ah.mk H); (clear H); (obtain ⟨Bo, Bq, Dw, Dx, Dy, Dz, Bv, Bz, DC, DF, DI, DJ⟩ := iy kG)
         go_wp2_with (first | ((with_reducible refine aH (f := 97) rfl ?_); refine dD (some 13) rfl rfl Try.func97 (by kernel_rfl) rfl #[.agg #[.int .u8 ((aj l0 bK).f0), .int .i64 ((aj l0 bK).f1), .string ((aj l0 bK).f2), .string ((aj l0 bK).f3), .string ((aj l0 bK).f4), .int .u64 ((aj l0 bK).f5)]] rfl (by (try simp only [List.map_toArray, List.map_cons, List.map_nil]); first | done | rfl) ?_; (with_reducible refine (iH.calls ((aj l0 bK).f0) ((aj l0 bK).f1) ((aj l0 bK).f2) ((aj l0 bK).f3) ((aj l0 bK).f4) ((aj l0 bK).f5) false _ A8.out).mono ?_); rintro e w21 ⟨rfl, hb⟩; refine ⟨_, rfl, ?_⟩; replace kG := ah.mk (aA (g := D7) (o := .cells #[.int .u8 ((aj l0 bK).f0), .int .i64 ((aj l0 bK).f1), .string ((aj l0 bK).f2), .string ((aj l0 bK).f3), .string ((aj l0 bK).f4), .int .u64 ((aj l0 bK).f5)] 46 (0, 0)) (akW) hb); replace HB := ah.mk (ak (wO) hb); (try clear hb); (try clear hb2); (try clear hk); (try clear hi); obtain ⟨GR, GU, KX, KY, KZ, K_, GV, GX, La, Lc, Ld, Le⟩ := iy kG))
         go_meet
         case rel => exact ⟨_, (true), (by first | rfl | (simp; done) | (simp [*]; done)), H', ⟨by have := oh.out; first | omega | exact Nat.le_refl _⟩, ⟨EZ⟩, ⟨wO⟩⟩
      case rest =>
       (clear HC5); (try clear c1); (try clear c2); (try clear zo); (try clear p2); (try clear q2); (try clear hx2); (try clear c3); (try clear zn); (try clear c4); (try clear uG); (try clear c9); (try clear c12); (try clear uf); (try clear TW); (try clear FH); (try clear FI); (try clear JA); (try clear JB); (try clear JC); (try clear JD); (try clear RS); (try clear RU); (try clear agd); (try clear agf); (try clear agh); (try clear agi); (try clear wH); (try clear wJ); (try clear Gu); (try clear Gv); (try clear Gw); (try clear Gx); (try clear Bo); (try clear Bq); (try clear Dw); (try clear Dx); (try clear Dy); (try clear Dz); (try clear GR); (try clear GU); (try clear KX); (try clear KY); (try clear KZ); (try clear K_); (try clear TF); (try clear TG); (try clear TI); (try clear TJ); (try clear TK); (try clear TL); (try clear FM); (try clear FN); (try clear JE); (try clear JF); (try clear JG); (try clear JH); (try clear RV); (try clear RX); (try clear agj)
       (try clear agk); (try clear agl); (try clear agm); (try clear wK); (try clear wL); (try clear Gy); (try clear Gz); (try clear GH); (try clear GI); (try clear Bv); (try clear Bz); (try clear DC); (try clear DF); (try clear DI); (try clear DJ); (try clear GV); (try clear GX); (try clear La); (try clear Lc); (try clear Ld); (try clear Le); (try clear TM); (try clear TN); (try clear TP); (try clear TQ); (try clear TR); (try clear TS); (try clear Zu); (try clear Zv); (try clear Zw); (try clear Zx); (try clear Zy); (try clear Zz); (try clear apC); (try clear apD); (obtain ⟨kq, agc, rfl, HA, HJ4, kG, HB⟩ := hcut)
       cases kq with
       | zero => exact absurd HA.out (by simp [aG.j1])
       | succ RZ =>
        (have H := HA.out); (clear HA); (simp only [aG.j1] at H); (by_cases c23 : agc = true)
        ·subst c23
         (have H1 : (some false) = some r := by rw [if_pos rfl] at H; exact H); (clear H); (have H := H1); (clear H1); (obtain rfl := Option.some.inj H); (go_wp2); (go_ret); (exact ⟨by first | rfl | (simp [*, bg, bn] <;> rfl), wO⟩)
        ·replace c23 := Bool.eq_false_iff.mpr c23
         subst c23
         have H1 : (if bK > 0 then (if 0 ≤ (wrap64 (bK - 1)) then (if (wrap64 (bK - 1)) < (l0.length : Int) then ((bV.f RZ ((aj l0 (wrap64 (bK - 1))).f0) ((aj l0 (wrap64 (bK - 1))).f1) ((aj l0 (wrap64 (bK - 1))).f2) ((aj l0 (wrap64 (bK - 1))).f3) ((aj l0 (wrap64 (bK - 1))).f4) ((aj l0 (wrap64 (bK - 1))).f5) ((aj l0 bK).f0) ((aj l0 bK).f1) ((aj l0 bK).f2) ((aj l0 bK).f3) ((aj l0 bK).f4) ((aj l0 bK).f5)).bind fun PX => (if PX ≥ 0 then (aG.j2 RZ l0 l0 (l0.length : Int) bK true) else (if ((aj l0 (wrap64 (bK - 1))).f1) = ((aj l0 bK).f1) then ((oq.f ((aj l0 (wrap64 (bK - 1))).f0) ((aj l0 (wrap64 (bK - 1))).f1) ((aj l0 (wrap64 (bK - 1))).f2) ((aj l0 (wrap64 (bK - 1))).f3) ((aj l0 (wrap64 (bK - 1))).f4) ((aj l0 (wrap64 (bK - 1))).f5) ((aj l0 bK).f0) ((aj l0 bK).f1) ((aj l0 bK).f2) ((aj l0 bK).f3) ((aj l0 bK).f4) ((aj l0 bK).f5)).bind fun U6 => (aG.j2 RZ l0 l0 (l0.length : Int) bK (!U6))) else (aG.j2 RZ l0 l0 (l0.length : Int) bK false)))) else (none)) else (none)) else (aG.j2 RZ l0 l0 (l0.length : Int) bK false)) = some r := by rw [if_neg (show ¬ (false = true) by decide)] at H; exact H
         (clear H); (have H := H1); (clear H1); (have acB := ah.mk H); (clear H); (go_upto_region 6 with (fail)); (go_cut [58] (fun v58 wc => ∃ (kq : Nat) (ZA : Bool), v58 = .bool ZA ∧ ah (aG.j2 kq l0 l0 (l0.length : Int) bK ZA = some r) ∧ ah (kq ≤ RZ) ∧ ah (wc.heap[D7]? = some (.cells #[.int .u8 ((aj l0 bK).f0), .int .i64 ((aj l0 bK).f1), .string ((aj l0 bK).f2), .string ((aj l0 bK).f3), .string ((aj l0 bK).f4), .int .u64 ((aj l0 bK).f5)] 46 (0, 0))) ∧ ah (Below w.heap.size w wc)))
         case first =>
          (have H := acB.out); (clear acB); (by_cases c25 : bK > 0)
          ·rw [if_pos c25] at H
           (have ug : decide (0 < bK) = true := decide_eq_true c25); (clear c25); ((first | rw [ug] | (simp only [dM, eu]; rw [ug]) | skip)); (obtain ⟨gQ, Hq⟩ : ∃ j_ : Int, (wrap64 (bK - 1)) = j_ := ⟨_, rfl⟩)
           (replace H : (if 0 ≤ (gQ) then (if (gQ) < (l0.length : Int) then ((bV.f RZ ((aj l0 (gQ)).f0) ((aj l0 (gQ)).f1) ((aj l0 (gQ)).f2) ((aj l0 (gQ)).f3) ((aj l0 (gQ)).f4) ((aj l0 (gQ)).f5) ((aj l0 bK).f0) ((aj l0 bK).f1) ((aj l0 bK).f2) ((aj l0 bK).f3) ((aj l0 bK).f4) ((aj l0 bK).f5)).bind fun PX => (if PX ≥ 0 then (aG.j2 RZ l0 l0 (l0.length : Int) bK true) else (if ((aj l0 (gQ)).f1) = ((aj l0 bK).f1) then ((oq.f ((aj l0 (gQ)).f0) ((aj l0 (gQ)).f1) ((aj l0 (gQ)).f2) ((aj l0 (gQ)).f3) ((aj l0 (gQ)).f4) ((aj l0 (gQ)).f5) ((aj l0 bK).f0) ((aj l0 bK).f1) ((aj l0 bK).f2) ((aj l0 bK).f3) ((aj l0 bK).f4) ((aj l0 bK).f5)).bind fun U6 => (aG.j2 RZ l0 l0 (l0.length : Int) bK (!U6))) else (aG.j2 RZ l0 l0 (l0.length : Int) bK false)))) else (none)) else (none)) = some r := by first | (rw [Hq] at H; exact H) | (simp only [Hq] at H ⊢; exact H)); (have aue : (IntKind.i64.wrap (bK - 1)) = gQ := (dM _).trans Hq); (by_cases Qh : 0 ≤ (gQ))
           ·rw [if_pos Qh] at H
            (have aqV : decide (0 ≤ (gQ)) = true := decide_eq_true Qh); (clear Qh); (by_cases c28 : (gQ) < (l0.length : Int))
            ·rw [if_pos c28] at H
             (have aqW : decide ((gQ) < (l0.length : Int)) = true := decide_eq_true c28); (clear c28); (replace H := Option.bind_eq_some_iff.mp H); (obtain ⟨PX, aAS, H⟩ := H); (replace H : (if PX ≥ 0 then (aG.j2 RZ l0 l0 (l0.length : Int) bK true) else (if ((aj l0 (gQ)).f1) = ((aj l0 bK).f1) then ((oq.f ((aj l0 (gQ)).f0) ((aj l0 (gQ)).f1) ((aj l0 (gQ)).f2) ((aj l0 (gQ)).f3) ((aj l0 (gQ)).f4) ((aj l0 (gQ)).f5) ((aj l0 bK).f0) ((aj l0 bK).f1) ((aj l0 bK).f2) ((aj l0 bK).f3) ((aj l0 bK).f4) ((aj l0 bK).f5)).bind fun U6 => (aG.j2 RZ l0 l0 (l0.length : Int) bK (!U6))) else (aG.j2 RZ l0 l0 (l0.length : Int) bK false))) = some r := H); (have A29 := ah.mk aAS); (clear aAS); (by_cases VY : PX ≥ 0)
             ·rw [if_pos VY] at H
              (have aeU : decide (0 ≤ PX) = true := decide_eq_true VY); (clear VY); (have H' := ah.mk H); (clear H); (try go_wp2); (replace kG := ah.mk (iw kG.out)); (replace HB := ah.mk (fB HB.out)); (have Q5 : 0 ≤ ((gQ) : Int) := of_decide_eq_true (by first | (with_reducible assumption) | assumption)); (have Q7 : (gQ) < (l0.length : Int) := of_decide_eq_true (by first | (with_reducible assumption) | assumption)); (obtain ⟨abk, e280, qQ, qR, qU, qV, qW, qX⟩ := gJ HR0.out (gQ) Q5 Q7); (have D6 := qX); (have D5 := qW); (have DZ := qV); (have DY := qU); (have DX := qR); (have DW := qQ); (obtain rfl : H6 = abk := (by injection e280)); (replace qQ := gq HB qQ); (replace qR := gq HB qR); (replace qU := gq HB qU); (replace qV := gq HB qV)
              (replace qW := gq HB qW); (replace qX := gq HB qX); (replace Q5 := eq_true Q5); (replace Q7 := eq_true Q7)
              refine jP (n := 33) (S := fun w' => B46 D7 ((aj l0 bK).f0) ((aj l0 bK).f1) ((aj l0 bK).f2) ((aj l0 bK).f3) ((aj l0 bK).f4) ((aj l0 bK).f5) w' ∧ MF (H6.add (((gQ)).toNat * 6)) (aj l0 (gQ)) w') (ds := []) #[false, false, false, false, false, false, false, false, false, false, false, false, false, false, false, false, false, false, false, false, false, false, false, false, false, false, false, false, false, false, false, false, false] (by kernel_rfl) rfl rfl ⟨(Lr kG), (EC HB ⟨DW, DX, DY, DZ, D5, D6⟩)⟩ (fun hHeld => ?_); refine gU aG.tab6 aG.Qr (fun bI mF => ?_)
              (generalize wc.drew = w31 at kG HB qQ qR qU qV qW qX hHeld ⊢); (refine gI 0 26 bI.out ?_)
              refine gI 1 27 bI.out ?_
              refine gI 2 28 bI.out ?_
              refine gI 3 29 bI.out ?_
              refine gI 4 30 bI.out ?_
              refine gI 5 31 bI.out ?_
              refine gI 6 32 bI.out ?_
              refine wZ 7 33 bI.out mF.out rfl hHeld (ase) ?_
              refine wZ 8 34 bI.out mF.out rfl hHeld (ase) ?_
              (refine kN (i := 9) (N := some 35) #[true, true, true, true, true, true, true, true, true, true, false, false, false, false, false, false, false, false, false, false, false, false, false, false, false, false, false, false, false, false, false, false, false] rfl rfl (gG bI.out (by kernel_rfl)) (by decide) (fun K hK => ?_)); (refine kD Try.func91 (by kernel_rfl) rfl #[.agg #[.int .u8 ((aj l0 (gQ)).f0), .int .i64 ((aj l0 (gQ)).f1), .string ((aj l0 (gQ)).f2), .string ((aj l0 (gQ)).f3), .string ((aj l0 (gQ)).f4), .int .u64 ((aj l0 (gQ)).f5)], .agg #[.int .u8 ((aj l0 bK).f0), .int .i64 ((aj l0 bK).f1), .string ((aj l0 bK).f2), .string ((aj l0 bK).f3), .string ((aj l0 bK).f4), .int .u64 ((aj l0 bK).f5)]] (by rfl) rfl rfl (by (try simp only [List.map_toArray, List.map_cons, List.map_nil]); first | done | (simp only [Hq]; rfl) | rfl | (simp only [List.length_drop, List.length_take]; rfl)) ?_)
              (with_reducible refine (bV.calls RZ ((aj l0 (gQ)).f0) ((aj l0 (gQ)).f1) ((aj l0 (gQ)).f2) ((aj l0 (gQ)).f3) ((aj l0 (gQ)).f4) ((aj l0 (gQ)).f5) ((aj l0 bK).f0) ((aj l0 bK).f1) ((aj l0 bK).f2) ((aj l0 bK).f3) ((aj l0 bK).f4) ((aj l0 bK).f5) PX _ A29.out).mono ?_); (rintro e w32 ⟨rfl, hb⟩); (refine ⟨_, rfl, ?_⟩); (replace kG := ah.mk (aA (EZ) hb)); (replace HB := ah.mk (ak (wO) hb)); ((try clear hb)); ((try clear hb2)); ((try clear hk)); ((try clear hi))
              (refine hK.out _ _ ⟨(Lr kG), (EC HB ⟨DW, DX, DY, DZ, D5, D6⟩)⟩ (fun hHeld => ?_)); (clear hK K); (refine fC (a' := ?_) ?_ ?_)
              rotate_left
              ·show Act.put _ (some 35) _ = _
               (simp only [mM, mO, mP, mQ, dM, eu]); (rfl)
              refine gI 10 36 bI.out ?_
              refine gI 11 37 bI.out ?_
              refine oJ 12 38 bI.out ?_
              refine oJ 13 39 bI.out ?_
              refine oJ 14 40 bI.out ?_
              refine oJ 15 41 bI.out ?_
              refine oJ 16 42 bI.out ?_
              refine oJ 17 43 bI.out ?_
              refine oJ 18 44 bI.out ?_
              refine oJ 19 45 bI.out ?_
              refine oJ 20 46 bI.out ?_
              refine oJ 21 47 bI.out ?_
              refine oJ 22 48 bI.out ?_
              refine oJ 23 49 bI.out ?_
              refine oJ 24 50 bI.out ?_
              refine oJ 25 51 bI.out ?_
              refine oJ 26 52 bI.out ?_
              refine oJ 27 53 bI.out ?_
              refine oJ 28 54 bI.out ?_
              refine oJ 29 55 bI.out ?_
              refine oJ 30 56 bI.out ?_
              refine gI 31 57 bI.out ?_
              refine gI 32 58 bI.out ?_
              (refine lU (jh bI.out (by kernel_rfl)) ?_); (try go_wp2); (go_meet)
              case rel => exact ⟨_, (true), (by first | rfl | (simp; done) | (simp [*]; done)), H', ⟨by have := oh.out; have := HJ4.out; first | omega | exact Nat.le_refl _⟩, ⟨EZ⟩, ⟨wO⟩⟩
             ·rw [if_neg VY] at H
              (have aeU : decide (0 ≤ PX) = false := decide_eq_false VY); (clear VY); (by_cases FY : ((aj l0 (gQ)).f1) = ((aj l0 bK).f1))
              ·rw [if_pos FY] at H
               (have EL : (((aj l0 (gQ)).f1) == ((aj l0 bK).f1)) = true := beq_iff_eq.mpr FY); (have Hr : (((aj l0 (gQ)).f1) != ((aj l0 bK).f1)) = false := bne_eq_false_iff_eq.mpr FY); (clear FY); (replace H := Option.bind_eq_some_iff.mp H); (obtain ⟨U6, akP, H⟩ := H); (replace H : (aG.j2 RZ l0 l0 (l0.length : Int) bK (!U6)) = some r := H); (have A34 := ah.mk akP); (clear akP); (have H' := ah.mk H); (clear H); (try go_wp2); (replace kG := ah.mk (iw kG.out)); (replace HB := ah.mk (fB HB.out)); (have Q5 : 0 ≤ ((gQ) : Int) := of_decide_eq_true (by first | (with_reducible assumption) | assumption)); (have Q7 : (gQ) < (l0.length : Int) := of_decide_eq_true (by first | (with_reducible assumption) | assumption)); (obtain ⟨abk, e280, qQ, qR, qU, qV, qW, qX⟩ := gJ HR0.out (gQ) Q5 Q7); (have D6 := qX); (have D5 := qW); (have DZ := qV); (have DY := qU); (have DX := qR); (have DW := qQ); (obtain rfl : H6 = abk := (by injection e280))
               (replace qQ := gq HB qQ); (replace qR := gq HB qR); (replace qU := gq HB qU); (replace qV := gq HB qV); (replace qW := gq HB qW); (replace qX := gq HB qX); (replace Q5 := eq_true Q5); (replace Q7 := eq_true Q7); (have abl : 0 ≤ ((gQ) : Int) := of_decide_eq_true (by first | (with_reducible assumption) | assumption)); (have abm : (gQ) < (l0.length : Int) := of_decide_eq_true (by first | (with_reducible assumption) | assumption)); (obtain ⟨akX, avw, yA, yB, yC, yD, yE, yF⟩ := gJ HR0.out (gQ) abl abm); (have OJ := yF); (have OI := yE); (have OH := yD); (have OG := yC); (have OE := yB); (have OD := yA); (obtain rfl : H6 = akX := (by injection avw))
               (replace yA := gq HB yA); (replace yB := gq HB yB); (replace yC := gq HB yC); (replace yD := gq HB yD); (replace yE := gq HB yE); (replace yF := gq HB yF); (replace abl := eq_true abl); (replace abm := eq_true abm); (have avx : 0 ≤ ((gQ) : Int) := of_decide_eq_true (by first | (with_reducible assumption) | assumption)); (have avy : (gQ) < (l0.length : Int) := of_decide_eq_true (by first | (with_reducible assumption) | assumption)); (obtain ⟨aAT, e283, R_, Si, Sj, Sm, Sr, Sv⟩ := gJ HR0.out (gQ) avx avy); (have af6 := Sv); (have af5 := Sr); (have af4 := Sm); (have af2 := Sj); (have af0 := Si); (have afZ := R_); (obtain rfl : H6 = aAT := (by injection e283))
               (replace R_ := gq HB R_); (replace Si := gq HB Si); (replace Sj := gq HB Sj); (replace Sm := gq HB Sm); (replace Sr := gq HB Sr); (replace Sv := gq HB Sv); (replace avx := eq_true avx); (replace avy := eq_true avy)
               refine jP (n := 33) (S := fun w' => B46 D7 ((aj l0 bK).f0) ((aj l0 bK).f1) ((aj l0 bK).f2) ((aj l0 bK).f3) ((aj l0 bK).f4) ((aj l0 bK).f5) w' ∧ MF (H6.add (((gQ)).toNat * 6)) (aj l0 (gQ)) w' ∧ MF (H6.add (((gQ)).toNat * 6)) (aj l0 (gQ)) w' ∧ MF (H6.add (((gQ)).toNat * 6)) (aj l0 (gQ)) w') (ds := []) #[false, false, false, false, false, false, false, false, false, false, false, false, false, false, false, false, false, false, false, false, false, false, false, false, false, false, false, false, false, false, false, false, false] (by kernel_rfl) rfl rfl ⟨(Lr kG), (EC HB ⟨DW, DX, DY, DZ, D5, D6⟩), (EC HB ⟨OD, OE, OG, OH, OI, OJ⟩), (EC HB ⟨afZ, af0, af2, af4, af5, af6⟩)⟩ (fun hHeld => ?_); refine gU aG.tab6 aG.Qr (fun bI mF => ?_)
               (generalize wc.drew = w35 at kG HB qQ qR qU qV qW qX yA yB yC yD yE yF R_ Si Sj Sm Sr Sv hHeld ⊢); (refine gI 0 26 bI.out ?_)
               refine gI 1 27 bI.out ?_
               refine gI 2 28 bI.out ?_
               refine gI 3 29 bI.out ?_
               refine gI 4 30 bI.out ?_
               refine gI 5 31 bI.out ?_
               refine gI 6 32 bI.out ?_
               refine wZ 7 33 bI.out mF.out rfl hHeld (WO) ?_
               refine wZ 8 34 bI.out mF.out rfl hHeld (WO) ?_
               (refine kN (i := 9) (N := some 35) #[true, true, true, true, true, true, true, true, true, true, false, false, false, false, false, false, false, false, false, false, false, false, false, false, false, false, false, false, false, false, false, false, false] rfl rfl (gG bI.out (by kernel_rfl)) (by decide) (fun K hK => ?_)); (refine kD Try.func91 (by kernel_rfl) rfl #[.agg #[.int .u8 ((aj l0 (gQ)).f0), .int .i64 ((aj l0 (gQ)).f1), .string ((aj l0 (gQ)).f2), .string ((aj l0 (gQ)).f3), .string ((aj l0 (gQ)).f4), .int .u64 ((aj l0 (gQ)).f5)], .agg #[.int .u8 ((aj l0 bK).f0), .int .i64 ((aj l0 bK).f1), .string ((aj l0 bK).f2), .string ((aj l0 bK).f3), .string ((aj l0 bK).f4), .int .u64 ((aj l0 bK).f5)]] (by rfl) rfl rfl (by (try simp only [List.map_toArray, List.map_cons, List.map_nil]); first | done | (simp only [Hq]; rfl) | rfl | (simp only [List.length_drop, List.length_take]; rfl)) ?_)
               (with_reducible refine (bV.calls RZ ((aj l0 (gQ)).f0) ((aj l0 (gQ)).f1) ((aj l0 (gQ)).f2) ((aj l0 (gQ)).f3) ((aj l0 (gQ)).f4) ((aj l0 (gQ)).f5) ((aj l0 bK).f0) ((aj l0 bK).f1) ((aj l0 bK).f2) ((aj l0 bK).f3) ((aj l0 bK).f4) ((aj l0 bK).f5) PX _ A29.out).mono ?_); (rintro e w36 ⟨rfl, hb⟩); (refine ⟨_, rfl, ?_⟩); (replace kG := ah.mk (aA (EZ) hb)); (replace HB := ah.mk (ak (wO) hb)); ((try clear hb)); ((try clear hb2)); ((try clear hk)); ((try clear hi))
               refine hK.out _ _ asf (fun hHeld => ?_)
               (clear hK K); (refine fC (a' := ?_) ?_ ?_)
               rotate_left
               ·show Act.put _ (some 35) _ = _
                (simp only [mM, mO, mP, mQ, dM, eu]); (rfl)
               refine gI 10 36 bI.out ?_
               refine gI 11 37 bI.out ?_
               refine gI 12 38 bI.out ?_
               refine gI 13 39 bI.out ?_
               refine gI 14 40 bI.out ?_
               refine gI 15 41 bI.out ?_
               refine gI 16 42 bI.out ?_
               refine gI 18 44 bI.out ?_
               refine wZ 17 43 bI.out mF.out rfl hHeld (WO) ?_
               refine wZ 19 45 bI.out mF.out rfl hHeld (WO) ?_
               refine gI 20 46 bI.out ?_
               refine gI 21 47 bI.out ?_
               refine gI 22 48 bI.out ?_
               refine gI 23 49 bI.out ?_
               refine gI 24 50 bI.out ?_
               refine gI 25 51 bI.out ?_
               refine wZ 26 52 bI.out mF.out rfl hHeld (WO) ?_
               refine wZ 27 53 bI.out mF.out rfl hHeld (WO) ?_
               (refine kN (i := 28) (N := some 54) #[true, true, true, true, true, true, true, true, true, true, true, true, true, true, true, true, true, true, true, true, true, true, true, true, true, true, true, true, true, false, false, false, false] rfl rfl (gG bI.out (by kernel_rfl)) (by decide) (fun K hK => ?_)); (refine kD Try.func100 (by kernel_rfl) rfl #[.agg #[.int .u8 ((aj l0 (gQ)).f0), .int .i64 ((aj l0 (gQ)).f1), .string ((aj l0 (gQ)).f2), .string ((aj l0 (gQ)).f3), .string ((aj l0 (gQ)).f4), .int .u64 ((aj l0 (gQ)).f5)], .agg #[.int .u8 ((aj l0 bK).f0), .int .i64 ((aj l0 bK).f1), .string ((aj l0 bK).f2), .string ((aj l0 bK).f3), .string ((aj l0 bK).f4), .int .u64 ((aj l0 bK).f5)]] (by rfl) rfl rfl (by (try simp only [List.map_toArray, List.map_cons, List.map_nil]); first | done | (simp only [Hq]; rfl) | rfl | (simp only [List.length_drop, List.length_take]; rfl)) ?_)
               (with_reducible refine (oq.calls ((aj l0 (gQ)).f0) ((aj l0 (gQ)).f1) ((aj l0 (gQ)).f2) ((aj l0 (gQ)).f3) ((aj l0 (gQ)).f4) ((aj l0 (gQ)).f5) ((aj l0 bK).f0) ((aj l0 bK).f1) ((aj l0 bK).f2) ((aj l0 bK).f3) ((aj l0 bK).f4) ((aj l0 bK).f5) U6 _ A34.out).mono ?_); (rintro e w37 ⟨rfl, hb⟩); (refine ⟨_, rfl, ?_⟩); (replace kG := ah.mk (aA (EZ) hb)); (replace HB := ah.mk (ak (wO) hb)); ((try clear hb)); ((try clear hb2)); ((try clear hk)); ((try clear hi))
               refine hK.out _ _ asf (fun hHeld => ?_)
               (clear hK K); (refine fC (a' := ?_) ?_ ?_)
               rotate_left
               ·show Act.put _ (some 54) _ = _
                (simp only [mM, mO, mP, mQ, dM, eu]); (rfl)
               refine gI 29 55 bI.out ?_
               refine gI 30 56 bI.out ?_
               refine gI 31 57 bI.out ?_
               refine gI 32 58 bI.out ?_
               (refine lU (jh bI.out (by kernel_rfl)) ?_); (try go_wp2); (go_meet)
               case rel => exact ⟨_, (!U6), (by first | rfl | (simp; done) | (simp [*]; done)), H', ⟨by have := oh.out; have := HJ4.out; first | omega | exact Nat.le_refl _⟩, ⟨EZ⟩, ⟨wO⟩⟩
              ·rw [if_neg FY] at H
               (have EL : (((aj l0 (gQ)).f1) == ((aj l0 bK).f1)) = false := beq_eq_false_iff_ne.mpr FY); (have Hr : (((aj l0 (gQ)).f1) != ((aj l0 bK).f1)) = true := bne_iff_ne.mpr FY); (have H' := ah.mk H); (clear H); (try go_wp2); (replace kG := ah.mk (iw kG.out)); (replace HB := ah.mk (fB HB.out)); (have Q5 : 0 ≤ ((gQ) : Int) := of_decide_eq_true (by first | (with_reducible assumption) | assumption)); (have Q7 : (gQ) < (l0.length : Int) := of_decide_eq_true (by first | (with_reducible assumption) | assumption)); (obtain ⟨abk, e280, qQ, qR, qU, qV, qW, qX⟩ := gJ HR0.out (gQ) Q5 Q7); (have D6 := qX); (have D5 := qW); (have DZ := qV); (have DY := qU); (have DX := qR); (have DW := qQ); (obtain rfl : H6 = abk := (by injection e280)); (replace qQ := gq HB qQ); (replace qR := gq HB qR)
               (replace qU := gq HB qU); (replace qV := gq HB qV); (replace qW := gq HB qW); (replace qX := gq HB qX); (replace Q5 := eq_true Q5); (replace Q7 := eq_true Q7); (have abl : 0 ≤ ((gQ) : Int) := of_decide_eq_true (by first | (with_reducible assumption) | assumption)); (have abm : (gQ) < (l0.length : Int) := of_decide_eq_true (by first | (with_reducible assumption) | assumption)); (obtain ⟨akX, avw, yA, yB, yC, yD, yE, yF⟩ := gJ HR0.out (gQ) abl abm); (have OJ := yF); (have OI := yE); (have OH := yD); (have OG := yC); (have OE := yB); (have OD := yA); (obtain rfl : H6 = akX := (by injection avw)); (replace yA := gq HB yA); (replace yB := gq HB yB)
               (replace yC := gq HB yC); (replace yD := gq HB yD); (replace yE := gq HB yE); (replace yF := gq HB yF); (replace abl := eq_true abl); (replace abm := eq_true abm)
               refine jP (n := 33) (S := fun w' => B46 D7 ((aj l0 bK).f0) ((aj l0 bK).f1) ((aj l0 bK).f2) ((aj l0 bK).f3) ((aj l0 bK).f4) ((aj l0 bK).f5) w' ∧ MF (H6.add (((gQ)).toNat * 6)) (aj l0 (gQ)) w' ∧ MF (H6.add (((gQ)).toNat * 6)) (aj l0 (gQ)) w') (ds := []) #[false, false, false, false, false, false, false, false, false, false, false, false, false, false, false, false, false, false, false, false, false, false, false, false, false, false, false, false, false, false, false, false, false] (by kernel_rfl) rfl rfl ⟨(Lr kG), (EC HB ⟨DW, DX, DY, DZ, D5, D6⟩), (EC HB ⟨OD, OE, OG, OH, OI, OJ⟩)⟩ (fun hHeld => ?_); refine gU aG.tab6 aG.Qr (fun bI mF => ?_)
               (generalize wc.drew = w38 at kG HB qQ qR qU qV qW qX yA yB yC yD yE yF hHeld ⊢); (refine gI 0 26 bI.out ?_)
               refine gI 1 27 bI.out ?_
               refine gI 2 28 bI.out ?_
               refine gI 3 29 bI.out ?_
               refine gI 4 30 bI.out ?_
               refine gI 5 31 bI.out ?_
               refine gI 6 32 bI.out ?_
               refine wZ 7 33 bI.out mF.out rfl hHeld (af7) ?_
               refine wZ 8 34 bI.out mF.out rfl hHeld (af7) ?_
               (refine kN (i := 9) (N := some 35) #[true, true, true, true, true, true, true, true, true, true, false, false, false, false, false, false, false, false, false, false, false, false, false, false, false, false, false, false, false, false, false, false, false] rfl rfl (gG bI.out (by kernel_rfl)) (by decide) (fun K hK => ?_)); (refine kD Try.func91 (by kernel_rfl) rfl #[.agg #[.int .u8 ((aj l0 (gQ)).f0), .int .i64 ((aj l0 (gQ)).f1), .string ((aj l0 (gQ)).f2), .string ((aj l0 (gQ)).f3), .string ((aj l0 (gQ)).f4), .int .u64 ((aj l0 (gQ)).f5)], .agg #[.int .u8 ((aj l0 bK).f0), .int .i64 ((aj l0 bK).f1), .string ((aj l0 bK).f2), .string ((aj l0 bK).f3), .string ((aj l0 bK).f4), .int .u64 ((aj l0 bK).f5)]] (by rfl) rfl rfl (by (try simp only [List.map_toArray, List.map_cons, List.map_nil]); first | done | (simp only [Hq]; rfl) | rfl | (simp only [List.length_drop, List.length_take]; rfl)) ?_)
               (with_reducible refine (bV.calls RZ ((aj l0 (gQ)).f0) ((aj l0 (gQ)).f1) ((aj l0 (gQ)).f2) ((aj l0 (gQ)).f3) ((aj l0 (gQ)).f4) ((aj l0 (gQ)).f5) ((aj l0 bK).f0) ((aj l0 bK).f1) ((aj l0 bK).f2) ((aj l0 bK).f3) ((aj l0 bK).f4) ((aj l0 bK).f5) PX _ A29.out).mono ?_); (rintro e w39 ⟨rfl, hb⟩); (refine ⟨_, rfl, ?_⟩); (replace kG := ah.mk (aA (EZ) hb)); (replace HB := ah.mk (ak (wO) hb)); ((try clear hb)); ((try clear hb2)); ((try clear hk)); ((try clear hi))
               (refine hK.out _ _ ⟨(Lr kG), (EC HB ⟨DW, DX, DY, DZ, D5, D6⟩), (EC HB ⟨OD, OE, OG, OH, OI, OJ⟩)⟩ (fun hHeld => ?_)); (clear hK K); (refine fC (a' := ?_) ?_ ?_)
               rotate_left
               ·show Act.put _ (some 35) _ = _
                (simp only [mM, mO, mP, mQ, dM, eu]); (rfl)
               refine gI 10 36 bI.out ?_
               refine gI 11 37 bI.out ?_
               refine gI 12 38 bI.out ?_
               refine gI 13 39 bI.out ?_
               refine gI 14 40 bI.out ?_
               refine gI 15 41 bI.out ?_
               refine gI 16 42 bI.out ?_
               refine gI 18 44 bI.out ?_
               refine wZ 17 43 bI.out mF.out rfl hHeld (af7) ?_
               refine wZ 19 45 bI.out mF.out rfl hHeld (af7) ?_
               refine gI 20 46 bI.out ?_
               refine gI 21 47 bI.out ?_
               refine oJ 22 48 bI.out ?_
               refine oJ 23 49 bI.out ?_
               refine oJ 24 50 bI.out ?_
               refine oJ 25 51 bI.out ?_
               refine oJ 26 52 bI.out ?_
               refine oJ 27 53 bI.out ?_
               refine oJ 28 54 bI.out ?_
               refine oJ 29 55 bI.out ?_
               refine gI 30 56 bI.out ?_
               refine gI 31 57 bI.out ?_
               refine gI 32 58 bI.out ?_
               (refine lU (jh bI.out (by kernel_rfl)) ?_); (try go_wp2); (go_meet)
               case rel => exact ⟨_, (false), (by first | rfl | (simp; done) | (simp [*]; done)), H', ⟨by have := oh.out; have := HJ4.out; first | omega | exact Nat.le_refl _⟩, ⟨EZ⟩, ⟨wO⟩⟩
            ·rw [if_neg c28] at H
             exact absurd H (by simp)
           ·rw [if_neg Qh] at H
            exact absurd H (by simp)
          ·rw [if_neg c25] at H
           (have ug : decide (0 < bK) = false := decide_eq_false c25); (clear c25); ((first | rw [ug] | (simp only [dM, eu]; rw [ug]) | skip)); (have H' := ah.mk H); (clear H); (try go_wp2); (replace kG := ah.mk (iw kG.out)); (replace HB := ah.mk (fB HB.out)); (refine jP (n := 33) (S := fun w' => True) (ds := []) #[false, false, false, false, false, false, false, false, false, false, false, false, false, false, false, false, false, false, false, false, false, false, false, false, false, false, false, false, false, false, false, false, false] (by kernel_rfl) rfl rfl trivial (fun hHeld => ?_); refine gU aG.tab6 aG.Qr (fun bI mF => ?_)); (generalize wc.drew = w40 at kG HB hHeld ⊢); (refine gI 0 26 bI.out ?_)
           refine gI 1 27 bI.out ?_
           refine gI 2 28 bI.out ?_
           refine oJ 3 29 bI.out ?_
           refine oJ 4 30 bI.out ?_
           refine oJ 5 31 bI.out ?_
           refine oJ 6 32 bI.out ?_
           refine oJ 7 33 bI.out ?_
           refine oJ 8 34 bI.out ?_
           refine oJ 9 35 bI.out ?_
           refine oJ 10 36 bI.out ?_
           refine oJ 11 37 bI.out ?_
           refine oJ 12 38 bI.out ?_
           refine oJ 13 39 bI.out ?_
           refine oJ 14 40 bI.out ?_
           refine oJ 15 41 bI.out ?_
           refine oJ 16 42 bI.out ?_
           refine oJ 17 43 bI.out ?_
           refine oJ 18 44 bI.out ?_
           refine oJ 19 45 bI.out ?_
           refine oJ 20 46 bI.out ?_
           refine oJ 21 47 bI.out ?_
           refine oJ 22 48 bI.out ?_
           refine oJ 23 49 bI.out ?_
           refine oJ 24 50 bI.out ?_
           refine oJ 25 51 bI.out ?_
           refine oJ 26 52 bI.out ?_
           refine oJ 27 53 bI.out ?_
           refine oJ 28 54 bI.out ?_
           refine oJ 29 55 bI.out ?_
           refine oJ 30 56 bI.out ?_
           refine oJ 31 57 bI.out ?_
           refine gI 32 58 bI.out ?_
           (refine lU (jh bI.out (by kernel_rfl)) ?_); (try go_wp2); (go_meet)
           case rel => exact ⟨_, (false), (by first | rfl | (simp; done) | (simp [*]; done)), H', ⟨by have := oh.out; have := HJ4.out; first | omega | exact Nat.le_refl _⟩, ⟨EZ⟩, ⟨wO⟩⟩
         case rest =>
          (clear acB); (try clear c1); (try clear c2); (try clear p2); (try clear q2); (try clear hx2); (try clear c3); (try clear c9); (try clear c10); (try clear c25); (try clear ug); (try clear Qh); (try clear c28); (try clear p28); (try clear V_); (try clear hx28); (try clear FY); (try clear EL); (try clear Hr); (try clear qQ); (try clear qR); (try clear qU); (try clear qV); (try clear qW); (try clear qX); (try clear yA); (try clear yB); (try clear yC); (try clear yD); (try clear yE); (try clear yF); (try clear Q5); (try clear abl); (try clear Q7); (try clear abm); (obtain ⟨kq, ZA, rfl, HA, ahF, kG, HB⟩ := hcut)
          cases kq with
          | zero => exact absurd HA.out (by simp [aG.j2])
          | succ QO =>
           (have H := HA.out); (clear HA); (simp only [aG.j2] at H); (by_cases Ux : ZA = true)
           ·subst Ux
            (have H1 : (some false) = some r := by rw [if_pos rfl] at H; exact H); (clear H); (have H := H1); (clear H1); (obtain rfl := Option.some.inj H); (go_wp2); (go_ret); (exact ⟨by first | rfl | (simp [*, bg, bn] <;> rfl), wO⟩)
           ·replace Ux := Bool.eq_false_iff.mpr Ux
            (subst Ux); (have H1 : (aG.l0 QO l0 l0 (l0.length : Int) (wrap64 (bK + 1))) = some r := by rw [if_neg (show ¬ (false = true) by decide)] at H; exact H); (clear H); (have H := H1); (clear H1); (have H' := ah.mk H); (clear H); (go_wp2); (go_roundg QO)
            case measure => have := oh.out; have := HJ4.out; have := ahF.out; omega
            case rel => exact ⟨(wrap64 (bK + 1)), (by first | rfl | (simp; done) | (simp [*]; done)), H', ⟨by have := oh.out; have := HJ4.out; have := ahF.out; omega⟩, ⟨wO⟩⟩
     ·rw [if_neg c4] at H
      exact absurd H (by simp)
    ·rw [if_neg c3] at H
     exact absurd H (by simp)
   ·rw [if_neg c2] at H
    (have zo : decide (bK < (l0.length : Int)) = false := decide_eq_false c2); (clear c2); (obtain rfl := Option.some.inj H); (go_wp2); (go_ret); (exact ⟨by first | rfl | (simp [*, bg, bn] <;> rfl), afY⟩)

end Go.Proofs.Ytnklnjghecmihaa.L2
