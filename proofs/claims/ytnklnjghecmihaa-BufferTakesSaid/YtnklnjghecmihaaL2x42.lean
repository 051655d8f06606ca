/- tight -/ -- written by wip/myprint.py
import Derived.Test.YtnklnjghecmihaaL2x0
import Derived.Test.YtnklnjghecmihaaL2x17
namespace Go.Proofs.Ytnklnjghecmihaa.L2
open Go.RowKit Go.Proofs.YtnklnjghecmihaaW aQ dV fP Mine
attribute [local go_sem] iM iO jk jl gW gX iP iQ iK iL dP dR dQ
set_option linter.unusedVariables false
set_option linter.unusedSimpArgs false
theorem arq {P : Prop} (h : P := by (with_reducible repeat first | exact HB.out | apply mG | apply ni | apply ny) <;> exact HB.out) : P := h
theorem ars {P : Prop} (h : P := by (with_reducible repeat first | exact HB.out | apply mG | apply ni | apply ny | refine jW ?_ aru.out) <;> exact HB.out) : P := h
theorem Wq {P : Prop} (h : P := by (with_reducible repeat first | apply iR | apply iT | apply iJ); exact Dv.out) : P := h
theorem arv {P : Prop} (h : P := by (with_reducible repeat (first | refine iR ?_ _ | refine iT ?_ | refine iJ ?_ _ | refine Pg ?_ Kr.out _)); exact Dv.out) : P := h
theorem Ws {P : Prop} (h : P := by (with_reducible repeat first | exact HB.out | apply mG | apply ni | apply ny | refine jW ?_ aru.out | refine jW ?_ ayR.out) <;> exact HB.out) : P := h
theorem afa {P : Prop} (h : P := by rintro w' ⟨⟨s0, s1, s2, s3, s4, s5⟩, ⟨s6, s7, s8, s9, s10, s11⟩⟩; go_simp; with_reducible rfl) : P := h
theorem aj_ {P : Prop} (h : P := by (with_reducible repeat first | apply iR | apply iT | apply iJ); exact xI.out) : P := h
theorem arw {P : Prop} (h : P := by exact ⟨(Lr xI), (EC HB ⟨RG, RH, RI, RJ, RN, RP⟩)⟩) : P := h

/-! ### api_Msg_114: function 114 -/
def fD.l0 : Nat → List (bC) → Int → Int → Int → ByteArray → ByteArray → ByteArray → Int → Option (Int × Int × ByteArray × ByteArray × ByteArray × Int)
 | 0, _, _, _, _, _, _, _, _ => none
 | k + 1, x0, x6, YS, YT, YU, YV, YW, YX => if x6 < (x0.length : Int) then (if 0 ≤ x6 then ((bV.f k ((aj x0 x6).f0) ((aj x0 x6).f1) ((aj x0 x6).f2) ((aj x0 x6).f3) ((aj x0 x6).f4) ((aj x0 x6).f5) YS YT YU YV YW YX).bind fun aaX => (if aaX > 0 then (fD.l0 k x0 (wrap64 (x6 + 1)) ((aj x0 x6).f0) ((aj x0 x6).f1) ((aj x0 x6).f2) ((aj x0 x6).f3) ((aj x0 x6).f4) ((aj x0 x6).f5)) else (fD.l0 k x0 (wrap64 (x6 + 1)) YS YT YU YV YW YX))) else (none)) else (some (YS, YT, YU, YV, YW, YX))
def fD.f (k : Nat) (l0 : List (bC))  : Option (Int × Int × ByteArray × ByteArray × ByteArray × Int) := if (l0.length : Int) < 1 then (none) else (if 0 < (l0.length : Int) then (fD.l0 k l0 1 ((aj l0 0).f0) ((aj l0 0).f1) ((aj l0 0).f2) ((aj l0 0).f3) ((aj l0 0).f4) ((aj l0 0).f5)) else (none))
theorem fD.gB : ∀ k, (∀ y0 y1 y2 y3 y4 y5 y6 y7, dO (fD.l0 k y0 y1 y2 y3 y4 y5 y6 y7) (fD.l0 (k + 1) y0 y1 y2 y3 y4 y5 y6 y7))
 | 0 => fun _ _ _ _ _ _ _ _ r h => by simp [fD.l0] at h
 | k + 1 => by
  have lS := fD.gB k
  ·intro y0 y1 y2 y3 y4 y5 y6 y7
   unfold fD.l0
   repeat' (with_reducible first | exact lS _ _ _ _ _ _ _ _ | exact bV.mono _ _ _ _ _ _ _ _ _ _ _ _ _ | exact dO.refl _ | exact dO.none _ | refine dO.ite ?_ ?_ | refine dO.bind ?_ (fun _ => ?_))
theorem fD.mono : ∀ a0 k, dO (fD.f k a0) (fD.f (k + 1) a0) := by
 (intro a0 k); (have lS := fD.gB k); (unfold fD.f)
 repeat' (with_reducible first | exact lS _ _ _ _ _ _ _ _ | exact bV.mono _ _ _ _ _ _ _ _ _ _ _ _ _ | exact dO.refl _ | exact dO.none _ | refine dO.ite ?_ ?_ | refine dO.bind ?_ (fun _ => ?_))
def fD.T7 : Bool × List (List Nat × List Nat) := (true, [([], []), ([], []), ([], []), ([1, 2], [1, 2]), ([3], [3]), ([], []), ([0, 4, 5], [0, 4, 5]), ([6], [6])])
def fD.B7 : List Nat := [0, 0, 0, 6, 14, 0, 63, 127]
theorem fD.ayS : nX .any (opsOf Try.f114 7) = fD.T7 := by kernel_rfl
theorem fD.arx : kH fD.T7.2 fD.B7 = true := by kernel_rfl
set_option maxHeartbeats 8000000 in
set_option maxRecDepth 100000 in
theorem fD.calls (k : Nat) (A0 : Option Addr) (c0 : Nat) (l0 : List (bC))  (r1 : Int) (r2 : Int) (r3 : ByteArray) (r4 : ByteArray) (r5 : ByteArray) (r6 : Int) (w : World) (hr0 : Kd.C k46 w A0 l0.length l0) (hc0 : l0.length ≤ c0) (h : fD.f k l0 = some (r1, r2, r3, r4, r5, r6)) :
  Calls Try.prog 114 #[.slice A0 l0.length c0, .func (.func 91) #[] #[]] w fun e w' => e = .returned (.agg #[.int .u8 r1, .int .i64 r2, .string r3, .string r4, .string r5, .int .u64 r6]) ∧ Below w.heap.size w w' := by
 (have vU := Try.underlying46); (have HR0 := ah.mk hr0); (have QK := ah.mk hc0); (clear hr0 hc0); (have HB := ah.mk (Below.refl w.heap.size w)); (have H : (if (l0.length : Int) < 1 then (none) else (if 0 < (l0.length : Int) then (fD.l0 k l0 1 ((aj l0 0).f0) ((aj l0 0).f1) ((aj l0 0).f2) ((aj l0 0).f3) ((aj l0 0).f4) ((aj l0 0).f5)) else (none))) = some (r1, r2, r3, r4, r5, r6) := h); (clear h); (by_cases c3 : (l0.length : Int) < 1)
 ·rw [if_pos c3] at H
  exact absurd H (by simp)
 ·rw [if_neg c3] at H
  (have zn : decide ((l0.length : Int) < 1) = false := decide_eq_false c3); (have TU : decide (l0.length < 1) = false := decide_eq_false (by omega)); (clear c3); (by_cases c4 : 0 < (l0.length : Int))
  ·rw [if_pos c4] at H
   (have uG : decide (0 < (l0.length : Int)) = true := decide_eq_true c4); (have XI : decide (0 < l0.length) = true := decide_eq_true (by omega)); (clear c4); (have H' := ah.mk H); (clear H); (go_enter Try.func114, Try.ntmps114)
   go_wp2_with (first | ((with_reducible refine bM (N := 4) rfl ?_); refine bU ?hg (N := 4) ?hd (cs := #[.int .u8 0, .int .i64 0, .string ⟨#[]⟩, .string ⟨#[]⟩, .string ⟨#[]⟩, .int .u64 0]) (t := 46) ?hr ?_; (case hd => rfl); (case hg => rfl); (case hr => first | (go_simp; done) | (go_simp; rfl)); intro arz hg w5 hbox hb; have Dv := ah.mk (hbox); have ayT := ah.mk (hs_ hg (arq)); replace HB := ah.mk (ak (arq) hb); have aru := ayT; clear hb hbox hg; have am2 : 0 ≤ (0 : Int) := (by omega); have am3 : 0 < (l0.length : Int) := of_decide_eq_true (by first | (with_reducible assumption) | assumption); obtain ⟨aaY, e290, Kt, Ku, Kv, Kw, Ky, Kz⟩ := gJ HR0.out 0 am2 am3; cases e290; have aM_ : (0 < l0.length) = True := eq_true (by omega); (try rw [show ((0 : Int)).toNat = 0 from rfl] at Kt); (try rw [show 0 * 6 = 0 from rfl] at Kt); (try rw [Addr.add_zero'] at Kt); (try rw [show ((0 : Int)).toNat = 0 from rfl] at Ku); (try rw [show 0 * 6 = 0 from rfl] at Ku); (try rw [Addr.add_zero'] at Ku); (try rw [show ((0 : Int)).toNat = 0 from rfl] at Kv); (try rw [show 0 * 6 = 0 from rfl] at Kv); (try rw [Addr.add_zero'] at Kv); (try rw [show ((0 : Int)).toNat = 0 from rfl] at Kw); (try rw [show 0 * 6 = 0 from rfl] at Kw); (try rw [Addr.add_zero'] at Kw); (try rw [show ((0 : Int)).toNat = 0 from rfl] at Ky); (try rw [show 0 * 6 = 0 from rfl] at Ky); (try rw [Addr.add_zero'] at Ky); (try rw [show ((0 : Int)).toNat = 0 from rfl] at Kz); (try rw [show 0 * 6 = 0 from rfl] at Kz); (try rw [Addr.add_zero'] at Kz); replace Kt := gq HB Kt; replace Ku := gq HB Ku; replace Kv := gq HB Kv; replace Kw := gq HB Kw; replace Ky := gq HB Ky; replace Kz := gq HB Kz; replace am2 := eq_true am2; replace am3 := eq_true am3) | ((with_reducible refine bM (N := 5) rfl ?_); refine bU ?hg (N := 5) ?hd (cs := #[.int .u8 0, .int .i64 0, .string ⟨#[]⟩, .string ⟨#[]⟩, .string ⟨#[]⟩, .int .u64 0]) (t := 46) ?hr ?_; (case hd => rfl); (case hg => rfl); (case hr => first | (go_simp; done) | (go_simp; rfl)); intro akb hg w6 hbox hb; have xI := ah.mk (hbox); have ayU := ah.mk (hs_ hg (ars)); replace HB := ah.mk (ak (ars) hb); have ayR := ayU; have Kr := ah.mk (pq hg (Wq)); have PG := ah.mk (pz hg (Wq)); replace Dv := ah.mk (aA (Wq) hb); clear hb hbox hg; have ams := PG.out; have amu := Kr.out; obtain ⟨Ed, Ee, Ik, Il, Io, Ip, Ef, Eh, Iq, Ir, Iu, Iw⟩ := iy xI))
   (try simp only [Act.put, List.setIfInBounds_toArray, List.set_cons_zero, List.set_cons_succ])
   go_loopg [6] k (fun kq v6 w' => ∃ (dn : Int) (kY : Int) (kZ : Int) (lg : ByteArray) (lq : ByteArray) (lu : ByteArray) (lC : Int), v6 = .int .i64 dn ∧ ah (fD.l0 kq l0 dn kY kZ lg lq lu lC = some (r1, r2, r3, r4, r5, r6)) ∧ ah (kq ≤ k) ∧ ah (w'.heap[arz]? = some (.cells #[.int .u8 0, .int .i64 0, .string ⟨#[]⟩, .string ⟨#[]⟩, .string ⟨#[]⟩, .int .u64 0] 46 (0, 0))) ∧ ah (w'.heap[akb]? = some (.cells #[.int .u8 kY, .int .i64 kZ, .string lg, .string lq, .string lu, .int .u64 lC] 46 (0, 0))) ∧ ah (Below w.heap.size w w'))
   case atStart => exact ⟨(1), ((aj l0 0).f0), ((aj l0 0).f1), ((aj l0 0).f2), ((aj l0 0).f3), ((aj l0 0).f4), ((aj l0 0).f5), (by first | rfl | (simp; done) | (simp [*]; done)), H', ⟨Nat.le_refl _⟩, ⟨arv⟩, ⟨by (with_reducible repeat first | apply iR | apply iT | apply iJ); refine bJ (cs := #[.int .u8 ((aj l0 0).f0), .int .i64 ((aj l0 0).f1), .string ((aj l0 0).f2), .string ((aj l0 0).f3), .string ((aj l0 0).f4), .int .u64 0]) ?_ 5 _ rfl; (with_reducible repeat first | apply iR | apply iT | apply iJ); refine bJ (cs := #[.int .u8 ((aj l0 0).f0), .int .i64 ((aj l0 0).f1), .string ((aj l0 0).f2), .string ((aj l0 0).f3), .string ⟨#[]⟩, .int .u64 0]) ?_ 4 _ rfl; (with_reducible repeat first | apply iR | apply iT | apply iJ); refine bJ (cs := #[.int .u8 ((aj l0 0).f0), .int .i64 ((aj l0 0).f1), .string ((aj l0 0).f2), .string ⟨#[]⟩, .string ⟨#[]⟩, .int .u64 0]) ?_ 3 _ rfl; (with_reducible repeat first | apply iR | apply iT | apply iJ); refine bJ (cs := #[.int .u8 ((aj l0 0).f0), .int .i64 ((aj l0 0).f1), .string ⟨#[]⟩, .string ⟨#[]⟩, .string ⟨#[]⟩, .int .u64 0]) ?_ 2 _ rfl; (with_reducible repeat first | apply iR | apply iT | apply iJ); refine bJ (cs := #[.int .u8 ((aj l0 0).f0), .int .i64 0, .string ⟨#[]⟩, .string ⟨#[]⟩, .string ⟨#[]⟩, .int .u64 0]) ?_ 1 _ rfl; (with_reducible repeat first | apply iR | apply iT | apply iJ); refine bJ (cs := #[.int .u8 0, .int .i64 0, .string ⟨#[]⟩, .string ⟨#[]⟩, .string ⟨#[]⟩, .int .u64 0]) ?_ 0 _ rfl; (with_reducible repeat first | apply iR | apply iT | apply iJ); exact xI.out⟩, ⟨Ws⟩⟩
   case round =>
    (clear H'); (try clear c1); (try clear p2); (try clear q2); (try clear hx2); (try clear qi2); (try clear c3); (try clear zn); (try clear TU); (try clear c4); (try clear uG); (try clear XI); (try clear c7); (try clear Ed); (try clear Ee); (try clear Ik); (try clear Il); (try clear Io); (try clear Ip); (try clear Ef); (try clear Eh); (try clear Iq); (try clear Ir); (try clear Iu); (try clear Iw); (try clear Kt); (try clear Ku); (try clear Kv); (try clear Kw); (try clear Ky); (try clear Kz); (try clear am2); (try clear am3); (obtain ⟨dn, kY, kZ, lg, lq, lu, lC, rfl, HA, oh, Dv, xI, HB⟩ := hrel)
    cases gk with
    | zero => exact absurd HA.out (by simp [fD.l0])
    | succ k1 =>
     (have H := HA.out); (clear HA); (simp only [fD.l0] at H); (by_cases c9 : dn < (l0.length : Int))
     ·rw [if_pos c9] at H
      (have Iy : decide (dn < (l0.length : Int)) = true := decide_eq_true c9); (clear c9); (by_cases c10 : 0 ≤ dn)
      ·rw [if_pos c10] at H
       (have vV : decide (0 ≤ dn) = true := decide_eq_true c10); (clear c10); (replace H := Option.bind_eq_some_iff.mp H); (obtain ⟨aaX, IJ, H⟩ := H); (replace H : (if aaX > 0 then (fD.l0 k1 l0 (wrap64 (dn + 1)) ((aj l0 dn).f0) ((aj l0 dn).f1) ((aj l0 dn).f2) ((aj l0 dn).f3) ((aj l0 dn).f4) ((aj l0 dn).f5)) else (fD.l0 k1 l0 (wrap64 (dn + 1)) kY kZ lg lq lu lC)) = some (r1, r2, r3, r4, r5, r6) := H); (have A11 := ah.mk IJ); (clear IJ); (by_cases c12 : aaX > 0)
       ·rw [if_pos c12] at H
        (have uf : decide (0 < aaX) = true := decide_eq_true c12); (clear c12); (have H' := ah.mk H); (clear H); (try go_wp2); (replace Dv := ah.mk (iw Dv.out)); (replace xI := ah.mk (iw xI.out)); (replace HB := ah.mk (fB HB.out)); (have acT : 0 ≤ (dn : Int) := of_decide_eq_true (by first | (with_reducible assumption) | assumption)); (have acU : dn < (l0.length : Int) := of_decide_eq_true (by first | (with_reducible assumption) | assumption)); (obtain ⟨akc, avn, Bd, Bf, Bg, Bh, Bj, Bl⟩ := gJ HR0.out dn acT acU); (have RP := Bl); (have RN := Bj); (have RJ := Bh); (have RI := Bg); (have RH := Bf); (have RG := Bd); (obtain rfl : aaY = akc := (by injection avn)); (replace Bd := gq HB Bd); (replace Bf := gq HB Bf); (replace Bg := gq HB Bg)
        (replace Bh := gq HB Bh); (replace Bj := gq HB Bj); (replace Bl := gq HB Bl); (replace acT := eq_true acT); (replace acU := eq_true acU)
        refine jP (n := 8) (S := fun w' => B46 akb kY kZ lg lq lu lC w' ∧ MF (aaY.add ((dn).toNat * 6)) (aj l0 dn) w') (ds := []) #[false, false, false, false, false, false, false, false] (by kernel_rfl) rfl rfl ⟨(Lr xI), (EC HB ⟨RG, RH, RI, RJ, RN, RP⟩)⟩ (fun hHeld => ?_); refine gU fD.ayS fD.arx (fun bI mF => ?_)
        (generalize wr.drew = w13 at Dv xI HB Bd Bf Bg Bh Bj Bl hHeld ⊢); (refine gI 0 20 bI.out ?_)
        refine gI 1 21 bI.out ?_
        refine gI 2 22 bI.out ?_
        refine gI 3 23 bI.out ?_
        refine wZ 4 24 bI.out mF.out rfl hHeld (afa) ?_
        refine wZ 5 25 bI.out mF.out rfl hHeld (afa) ?_
        (refine kN (i := 6) (N := some 26) #[true, true, true, true, true, true, true, false] rfl rfl (gG bI.out (by kernel_rfl)) (by decide) (fun K hK => ?_)); (refine Ec Try.func91 (by kernel_rfl) rfl #[.agg #[.int .u8 ((aj l0 dn).f0), .int .i64 ((aj l0 dn).f1), .string ((aj l0 dn).f2), .string ((aj l0 dn).f3), .string ((aj l0 dn).f4), .int .u64 ((aj l0 dn).f5)], .agg #[.int .u8 kY, .int .i64 kZ, .string lg, .string lq, .string lu, .int .u64 lC]] (by rfl) rfl rfl (by (try simp only [List.map_toArray, List.map_cons, List.map_nil]); first | done | rfl) ?_); (with_reducible refine (bV.calls k1 ((aj l0 dn).f0) ((aj l0 dn).f1) ((aj l0 dn).f2) ((aj l0 dn).f3) ((aj l0 dn).f4) ((aj l0 dn).f5) kY kZ lg lq lu lC aaX _ A11.out).mono ?_); (rintro e TY ⟨rfl, hb⟩); (refine ⟨_, rfl, ?_⟩)
        (replace Dv := ah.mk (aA (Wq) hb)); (replace xI := ah.mk (aA (aj_) hb)); (replace HB := ah.mk (ak (Ws) hb)); ((try clear hb)); ((try clear hb2)); ((try clear hk)); ((try clear hi))
        (refine hK.out _ _ arw (fun hHeld => ?_)); (clear hK K); (refine fC (a' := ?_) ?_ ?_)
        rotate_left
        ·show Act.put _ (some 26) _ = _
         (simp only [mM, mO, mP, mQ, dM, eu]); (rfl)
        refine gI 7 27 bI.out ?_
        (refine lU (jh bI.out (by kernel_rfl)) ?_); (have avo : 0 ≤ (dn : Int) := of_decide_eq_true (by first | (with_reducible assumption) | assumption)); (have avp : dn < (l0.length : Int) := of_decide_eq_true (by first | (with_reducible assumption) | assumption)); (obtain ⟨ayV, e294, afb, afc, afd, afe, aff, afg⟩ := gJ HR0.out dn avo avp); (obtain rfl : aaY = ayV := (by injection e294)); (replace afb := gq HB afb); (replace afc := gq HB afc); (replace afd := gq HB afd); (replace afe := gq HB afe); (replace aff := gq HB aff); (replace afg := gq HB afg); (replace avo := eq_true avo); (replace avp := eq_true avp); (have aqP := PG.out); (have aqQ := Kr.out); (obtain ⟨XP, XQ, XR, XT, XU, XV, XW, XY, XZ, X0, X3, X4⟩ := iy xI); (try go_wp2); (go_roundg k1)
        case measure => have := oh.out; omega
        case rel => exact ⟨(wrap64 (dn + 1)), ((aj l0 dn).f0), ((aj l0 dn).f1), ((aj l0 dn).f2), ((aj l0 dn).f3), ((aj l0 dn).f4), ((aj l0 dn).f5), (by first | rfl | (simp; done) | (simp [*]; done)), H', ⟨by have := oh.out; omega⟩, ⟨arv⟩, ⟨by (with_reducible repeat first | apply iR | apply iT | apply iJ); refine bJ (cs := #[.int .u8 ((aj l0 dn).f0), .int .i64 ((aj l0 dn).f1), .string ((aj l0 dn).f2), .string ((aj l0 dn).f3), .string ((aj l0 dn).f4), .int .u64 lC]) ?_ 5 _ rfl; (with_reducible repeat first | apply iR | apply iT | apply iJ); refine bJ (cs := #[.int .u8 ((aj l0 dn).f0), .int .i64 ((aj l0 dn).f1), .string ((aj l0 dn).f2), .string ((aj l0 dn).f3), .string lu, .int .u64 lC]) ?_ 4 _ rfl; (with_reducible repeat first | apply iR | apply iT | apply iJ); refine bJ (cs := #[.int .u8 ((aj l0 dn).f0), .int .i64 ((aj l0 dn).f1), .string ((aj l0 dn).f2), .string lq, .string lu, .int .u64 lC]) ?_ 3 _ rfl; (with_reducible repeat first | apply iR | apply iT | apply iJ); refine bJ (cs := #[.int .u8 ((aj l0 dn).f0), .int .i64 ((aj l0 dn).f1), .string lg, .string lq, .string lu, .int .u64 lC]) ?_ 2 _ rfl; (with_reducible repeat first | apply iR | apply iT | apply iJ); refine bJ (cs := #[.int .u8 ((aj l0 dn).f0), .int .i64 kZ, .string lg, .string lq, .string lu, .int .u64 lC]) ?_ 1 _ rfl; (with_reducible repeat first | apply iR | apply iT | apply iJ); refine bJ (cs := #[.int .u8 kY, .int .i64 kZ, .string lg, .string lq, .string lu, .int .u64 lC]) ?_ 0 _ rfl; (with_reducible repeat first | apply iR | apply iT | apply iJ); exact xI.out⟩, ⟨Ws⟩⟩
       ·rw [if_neg c12] at H
        (have uf : decide (0 < aaX) = false := decide_eq_false c12); (clear c12); (have H' := ah.mk H); (clear H); (try go_wp2); (replace Dv := ah.mk (iw Dv.out)); (replace xI := ah.mk (iw xI.out)); (replace HB := ah.mk (fB HB.out)); (have acT : 0 ≤ (dn : Int) := of_decide_eq_true (by first | (with_reducible assumption) | assumption)); (have acU : dn < (l0.length : Int) := of_decide_eq_true (by first | (with_reducible assumption) | assumption)); (obtain ⟨akc, avn, Bd, Bf, Bg, Bh, Bj, Bl⟩ := gJ HR0.out dn acT acU); (have RP := Bl); (have RN := Bj); (have RJ := Bh); (have RI := Bg); (have RH := Bf); (have RG := Bd); (obtain rfl : aaY = akc := (by injection avn)); (replace Bd := gq HB Bd); (replace Bf := gq HB Bf); (replace Bg := gq HB Bg)
        (replace Bh := gq HB Bh); (replace Bj := gq HB Bj); (replace Bl := gq HB Bl); (replace acT := eq_true acT); (replace acU := eq_true acU)
        refine jP (n := 8) (S := fun w' => B46 akb kY kZ lg lq lu lC w' ∧ MF (aaY.add ((dn).toNat * 6)) (aj l0 dn) w') (ds := []) #[false, false, false, false, false, false, false, false] (by kernel_rfl) rfl rfl ⟨(Lr xI), (EC HB ⟨RG, RH, RI, RJ, RN, RP⟩)⟩ (fun hHeld => ?_); refine gU fD.ayS fD.arx (fun bI mF => ?_)
        (generalize wr.drew = w17 at Dv xI HB Bd Bf Bg Bh Bj Bl hHeld ⊢); (refine gI 0 20 bI.out ?_)
        refine gI 1 21 bI.out ?_
        refine gI 2 22 bI.out ?_
        refine gI 3 23 bI.out ?_
        refine wZ 4 24 bI.out mF.out rfl hHeld (afa) ?_
        refine wZ 5 25 bI.out mF.out rfl hHeld (afa) ?_
        (refine kN (i := 6) (N := some 26) #[true, true, true, true, true, true, true, false] rfl rfl (gG bI.out (by kernel_rfl)) (by decide) (fun K hK => ?_)); (refine Ec Try.func91 (by kernel_rfl) rfl #[.agg #[.int .u8 ((aj l0 dn).f0), .int .i64 ((aj l0 dn).f1), .string ((aj l0 dn).f2), .string ((aj l0 dn).f3), .string ((aj l0 dn).f4), .int .u64 ((aj l0 dn).f5)], .agg #[.int .u8 kY, .int .i64 kZ, .string lg, .string lq, .string lu, .int .u64 lC]] (by rfl) rfl rfl (by (try simp only [List.map_toArray, List.map_cons, List.map_nil]); first | done | rfl) ?_); (with_reducible refine (bV.calls k1 ((aj l0 dn).f0) ((aj l0 dn).f1) ((aj l0 dn).f2) ((aj l0 dn).f3) ((aj l0 dn).f4) ((aj l0 dn).f5) kY kZ lg lq lu lC aaX _ A11.out).mono ?_); (rintro e w18 ⟨rfl, hb⟩); (refine ⟨_, rfl, ?_⟩)
        (replace Dv := ah.mk (aA (Wq) hb)); (replace xI := ah.mk (aA (aj_) hb)); (replace HB := ah.mk (ak (Ws) hb)); ((try clear hb)); ((try clear hb2)); ((try clear hk)); ((try clear hi))
        (refine hK.out _ _ arw (fun hHeld => ?_)); (clear hK K); (refine fC (a' := ?_) ?_ ?_)
        rotate_left
        ·show Act.put _ (some 26) _ = _
         (simp only [mM, mO, mP, mQ, dM, eu]); (rfl)
        refine gI 7 27 bI.out ?_
        (refine lU (jh bI.out (by kernel_rfl)) ?_); (try go_wp2); (go_roundg k1)
        case measure => have := oh.out; omega
        case rel => exact ⟨(wrap64 (dn + 1)), (kY), (kZ), (lg), (lq), (lu), (lC), (by first | rfl | (simp; done) | (simp [*]; done)), H', ⟨by have := oh.out; omega⟩, ⟨Wq⟩, ⟨aj_⟩, ⟨Ws⟩⟩
      ·rw [if_neg c10] at H
       exact absurd H (by simp)
     ·rw [if_neg c9] at H
      (have Iy : decide (dn < (l0.length : Int)) = false := decide_eq_false c9); (clear c9); (simp only [Option.some.injEq, Prod.mk.injEq] at H); (obtain ⟨rfl, rfl, rfl, rfl, rfl, rfl⟩ := H); (have aNa := PG.out); (have aNb := Kr.out); (obtain ⟨Bo, Bq, Dw, Dx, Dy, Dz, Bv, Bz, DC, DF, DI, DJ⟩ := iy xI)
      (obtain ⟨am4, am5, am6, am7, am8, am9, am_, ana, anb, anc, ane, anf⟩ := iy Dv); (go_wp2)
      refine bodyPost_ret (results_cell_row rfl _ _ arz 46 #[.int .u8 kY, .int .i64 kZ, .string lg, .string lq, .string lu, .int .u64 lC] (0, 0) _ rfl (by (with_reducible repeat first | apply iR | apply iT | apply iJ); refine bJ (cs := #[.int .u8 kY, .int .i64 kZ, .string lg, .string lq, .string lu, .int .u64 0]) ?_ 5 _ rfl; (with_reducible repeat first | apply iR | apply iT | apply iJ); refine bJ (cs := #[.int .u8 kY, .int .i64 kZ, .string lg, .string lq, .string ⟨#[]⟩, .int .u64 0]) ?_ 4 _ rfl; (with_reducible repeat first | apply iR | apply iT | apply iJ); refine bJ (cs := #[.int .u8 kY, .int .i64 kZ, .string lg, .string ⟨#[]⟩, .string ⟨#[]⟩, .int .u64 0]) ?_ 3 _ rfl; (with_reducible repeat first | apply iR | apply iT | apply iJ); refine bJ (cs := #[.int .u8 kY, .int .i64 kZ, .string ⟨#[]⟩, .string ⟨#[]⟩, .string ⟨#[]⟩, .int .u64 0]) ?_ 2 _ rfl; (with_reducible repeat first | apply iR | apply iT | apply iJ); refine bJ (cs := #[.int .u8 kY, .int .i64 0, .string ⟨#[]⟩, .string ⟨#[]⟩, .string ⟨#[]⟩, .int .u64 0]) ?_ 1 _ rfl; (with_reducible repeat first | apply iR | apply iT | apply iJ); refine bJ (cs := #[.int .u8 0, .int .i64 0, .string ⟨#[]⟩, .string ⟨#[]⟩, .string ⟨#[]⟩, .int .u64 0]) ?_ 0 _ rfl; (with_reducible repeat first | apply iR | apply iT | apply iJ); exact Dv.out) Try.underlying46 rfl (by kernel_rfl)) rfl ?_
      exact ⟨by first | rfl | (simp [*, bg, bn] <;> rfl), Ws⟩
  ·rw [if_neg c4] at H
   exact absurd H (by simp)

end Go.Proofs.Ytnklnjghecmihaa.L2
