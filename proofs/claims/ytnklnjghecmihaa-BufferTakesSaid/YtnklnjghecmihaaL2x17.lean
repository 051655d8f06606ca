/- tight -/ -- written by wip/myprint.py
import Derived.Test.YtnklnjghecmihaaL2x0
import Derived.Test.YtnklnjghecmihaaL2P0
import Derived.Test.YtnklnjghecmihaaL2x14
import Derived.Test.YtnklnjghecmihaaL2x16
namespace Go.Proofs.Ytnklnjghecmihaa.L2
open Go.RowKit Go.Proofs.YtnklnjghecmihaaW aQ dV fP Mine
attribute [local go_sem] iM iO jk jl gW gX iP iQ iK iL dP dR dQ
set_option linter.unusedVariables false
set_option linter.unusedSimpArgs false
theorem aqY {P : Prop} (h : P := by (with_reducible repeat first | exact HB.out | apply mG | apply ni | apply ny) <;> exact HB.out) : P := h
theorem aqZ {P : Prop} (h : P := by (with_reducible repeat first | exact HB.out | apply mG | apply ni | apply ny | refine jW ?_ aq0.out) <;> exact HB.out) : P := h
theorem aeV {P : Prop} (h : P := by (with_reducible repeat first | apply iR | apply iT | apply iJ); exact NY.out) : P := h
theorem aeW {P : Prop} (h : P := by rintro w' ⟨⟨s0, s1, s2, s3, s4, s5⟩, ⟨s6, s7, s8, s9, s10, s11⟩⟩; go_simp; with_reducible rfl) : P := h
theorem aeX {P : Prop} (h : P := by exact ⟨(Lr NY), (Lr Qq)⟩) : P := h
theorem ajh {P : Prop} (h : P := by (with_reducible repeat first | exact HB.out | apply mG | apply ni | apply ny | refine jW ?_ aq0.out | refine jW ?_ axx.out) <;> exact HB.out) : P := h

/-! ### buffer_order: function 91 -/
def bV.f (k : Nat) (aI : Int) (aN : Int) (aW : ByteArray) (bF : ByteArray) (bP : ByteArray) (bT : Int) (bf : Int) (aZ : Int) (jS : ByteArray) (kQ : ByteArray) (kR : ByteArray) (kS : Int) : Option (Int) := (cmp_Compare_int.f aN aZ).bind fun t139 => ((jy.f aW jS).bind fun Py => ((fV.f k (([t139, Py] : List Int))).bind fun QS => (some QS)))
theorem bV.mono : ∀ a0 a1 a2 a3 a4 a5 a6 a7 a8 a9 a10 a11 k, dO (bV.f k a0 a1 a2 a3 a4 a5 a6 a7 a8 a9 a10 a11) (bV.f (k + 1) a0 a1 a2 a3 a4 a5 a6 a7 a8 a9 a10 a11) := by
 (intro a0 a1 a2 a3 a4 a5 a6 a7 a8 a9 a10 a11 k); (unfold bV.f)
 repeat' (with_reducible first | exact fV.mono _ _ | exact dO.refl _ | exact dO.none _ | refine dO.ite ?_ ?_ | refine dO.bind ?_ (fun _ => ?_))
def bV.T1 : Bool × List (List Nat × List Nat) := (true, [([], []), ([0], [0]), ([], []), ([2], [2]), ([1, 3], [1, 3]), ([], []), ([5], [5]), ([], []), ([7], [7]), ([6, 8, 4], [6, 8]), ([4, 9], [4, 9]), ([10, 9], [10]), ([11, 11, 0, 1, 2, 3, 4, 5, 6, 7, 8, 9, 10, 11], [11])])
def bV.B1 : List Nat := [0, 1, 0, 4, 15, 0, 32, 0, 128, 511, 1023, 2047, 4095]
theorem bV.aJ5 : nX .any (opsOf Try.f91 1) = bV.T1 := by kernel_rfl
theorem bV.axy : kH bV.T1.2 bV.B1 = true := by kernel_rfl
set_option maxHeartbeats 8000000 in
set_option maxRecDepth 100000 in
theorem bV.calls (k : Nat) (aI : Int) (aN : Int) (aW : ByteArray) (bF : ByteArray) (bP : ByteArray) (bT : Int) (bf : Int) (aZ : Int) (jS : ByteArray) (kQ : ByteArray) (kR : ByteArray) (kS : Int) (r : Int) (w : World) (h : bV.f k aI aN aW bF bP bT bf aZ jS kQ kR kS = some r) :
  Calls Try.prog 91 #[.agg #[.int .u8 aI, .int .i64 aN, .string aW, .string bF, .string bP, .int .u64 bT], .agg #[.int .u8 bf, .int .i64 aZ, .string jS, .string kQ, .string kR, .int .u64 kS]] w fun e w' => e = .returned (.int .i64 r) ∧ Below w.heap.size w w' := by
 (have vU := Try.underlying46); (have HB := ah.mk (Below.refl w.heap.size w)); (have H : ((cmp_Compare_int.f aN aZ).bind fun t139 => ((jy.f aW jS).bind fun Py => ((fV.f k (([t139, Py] : List Int))).bind fun QS => (some QS)))) = some r := h); (clear h); (replace H := Option.bind_eq_some_iff.mp H); (obtain ⟨t139, Iz, H⟩ := H); (replace H : ((jy.f aW jS).bind fun Py => ((fV.f k (([t139, Py] : List Int))).bind fun QS => (some QS))) = some r := H); (have A3 := ah.mk Iz); (clear Iz); (replace H := Option.bind_eq_some_iff.mp H); (obtain ⟨Py, NU, H⟩ := H); (replace H : ((fV.f k (([t139, Py] : List Int))).bind fun QS => (some QS)) = some r := H); (have A4 := ah.mk NU); (clear NU); (obtain ⟨aug, aaH⟩ : ∃ y_ : List Int, y_ = (([t139, Py] : List Int)) := ⟨_, rfl⟩)
 (replace H : ((fV.f k aug).bind fun QS => (some QS)) = some r := by first | (rw [aaH]; with_reducible exact H) | (have kJ := (Option.bind_some _ _).symm.trans H; rw [aaH]; with_reducible exact kJ) | (have kJ := (Option.bind_some _ _).symm.trans H; with_reducible exact kJ) | with_reducible exact H | (rw [aaH]; exact H) | exact H); (have aq1 := ah.mk aaH); (clear aaH); (replace H := Option.bind_eq_some_iff.mp H); (obtain ⟨QS, A50, H⟩ := H); (replace H : (some QS) = some r := H); (have A5 := ah.mk A50); (clear A50); (obtain rfl := Option.some.inj H); (go_enter Try.func91, Try.ntmps91)
 try go_wp2_with (first | ((with_reducible refine bM (N := 2) rfl ?_); refine bU ?hg (N := 2) ?hd (cs := #[.int .u8 aI, .int .i64 aN, .string aW, .string bF, .string bP, .int .u64 bT]) (t := 46) ?hr ?_; (case hd => rfl); (case hg => rfl); (case hr => first | (go_simp; done) | (go_simp; rfl)); intro axz hg w6 hbox hb; have NY := ah.mk (hbox); have axA := ah.mk (hs_ hg (aqY)); replace HB := ah.mk (ak (aqY) hb); have aq0 := axA; clear hb hbox hg) | ((with_reducible refine bM (N := 3) rfl ?_); refine bU ?hg (N := 3) ?hd (cs := #[.int .u8 bf, .int .i64 aZ, .string jS, .string kQ, .string kR, .int .u64 kS]) (t := 46) ?hr ?_; (case hd => rfl); (case hg => rfl); (case hr => first | (go_simp; done) | (go_simp; rfl)); intro axB hg w7 hbox hb; have Qq := ah.mk (hbox); have axC := ah.mk (hs_ hg (aqZ)); replace HB := ah.mk (ak (aqZ) hb); have axx := axC; have awL := ah.mk (pq hg (aeV)); have awM := ah.mk (pz hg (aeV)); replace NY := ah.mk (aA (aeV) hb); clear hb hbox hg))
 (replace NY := ah.mk (iw NY.out)); (replace Qq := ah.mk (iw Qq.out)); (replace HB := ah.mk (fB HB.out))
 refine jP (n := 13) (S := fun w' => B46 axz aI aN aW bF bP bT w' ∧ B46 axB bf aZ jS kQ kR kS w') (ds := []) #[false, false, false, false, false, false, false, false, false, false, false, false, false] (by kernel_rfl) rfl rfl ⟨(Lr NY), (Lr Qq)⟩ (fun hHeld => ?_); refine gU bV.aJ5 bV.axy (fun bI mF => ?_)
 (generalize w7.drew = w8 at NY Qq HB hHeld ⊢); (refine gI 0 5 bI.out ?_)
 refine gI 2 7 bI.out ?_
 refine gI 5 10 bI.out ?_
 refine gI 7 12 bI.out ?_
 refine wZ 1 6 bI.out mF.out rfl hHeld (aeW) ?_
 refine wZ 3 8 bI.out mF.out rfl hHeld (aeW) ?_
 refine wZ 6 11 bI.out mF.out rfl hHeld (aeW) ?_
 refine wZ 8 13 bI.out mF.out rfl hHeld (aeW) ?_
 (refine kN (i := 4) (N := some 9) #[true, true, true, true, true, true, true, true, true, false, false, false, false] rfl rfl (gG bI.out (by kernel_rfl)) (by decide) (fun K hK => ?_)); (refine kD Try.func132 (by kernel_rfl) rfl #[.int .i64 aN, .int .i64 aZ] (by rfl) rfl rfl (by (try simp only [List.map_toArray, List.map_cons, List.map_nil]); first | done | rfl) ?_); (with_reducible refine (cmp_Compare_int.calls aN aZ t139 _ A3.out).mono ?_); (rintro e w' ⟨rfl, ⟨nd, rfl⟩⟩); (refine ⟨_, rfl, ?_⟩); (refine hK.out _ _ aeX (fun hHeld => ?_)); (clear hK K); (refine fC (a' := ?_) ?_ ?_)
 rotate_left
 ·show Act.put _ (some 9) _ = _
  (simp only [mM, mO, mP, mQ, dM, eu]); (rfl)
 (refine kN (i := 9) (N := some 14) #[true, true, true, true, true, true, true, true, true, true, false, false, false] rfl rfl (gG bI.out (by kernel_rfl)) (by decide) (fun K hK => ?_)); (refine kD Try.func133 (by kernel_rfl) rfl #[.string aW, .string jS] (by rfl) rfl rfl (by (try simp only [List.map_toArray, List.map_cons, List.map_nil]); first | done | rfl) ?_); (with_reducible refine (jy.calls aW jS Py _ A4.out).mono ?_); (rintro e w' ⟨rfl, ⟨nd, rfl⟩⟩); (refine ⟨_, rfl, ?_⟩); (refine hK.out _ _ aeX (fun hHeld => ?_)); (clear hK K); (refine fC (a' := ?_) ?_ ?_)
 rotate_left
 ·show Act.put _ (some 14) _ = _
  (simp only [mM, mO, mP, mQ, dM, eu]); (rfl)
 (refine kN (i := 10) (N := some 15) #[true, true, true, true, true, true, true, true, true, true, true, false, false] rfl rfl (gG bI.out (by kernel_rfl)) (by decide) (fun K hK => ?_)); (refine Kd.aci (Kd.int .i64) _ 3 ?hg (N := 15) ?hd (xs := ([t139, Py] : List Int)) (inner := [.int .i64 t139, .int .i64 Py]) (ok := fun _ => True) (yP := fun _ => True) ?hr ?hp (fun _ hk => hk) trivial (Below.refl _ _) (Nat.le_refl _) (by simp) ?_; (case hd => rfl); (case hg => rfl); (case hr => first | (go_simp; done) | (go_simp; rfl)); (case hp => exact (iU.one (show Kd.M (Kd.int .i64) _ _ _ t139 [.int .i64 t139] from rfl) (iU.one (show Kd.M (Kd.int .i64) _ _ _ Py [.int .i64 Py] from rfl) (iU.none _ _))))); (intro aO7 w9 aji hb tC kT); (clear tC kT); ((first | rw [← aq1.out] at aji | (simp only [Int.reduceToNat] at aji; rw [← aq1.out] at aji))); (have pG := ah.mk (Kd.gy aji (cZ (ajh))))
 (have pI := ah.mk (aA (aeV) hb)); (have nZ := ah.mk (aA (by (with_reducible repeat first | apply iR | apply iT | apply iJ); exact Qq.out) hb)); (have pJ := ah.mk (ak (ajh) hb)); (clear NY Qq HB); (have ajj := pG); (have NY := pI); (have Qq := nZ); (have HB := pJ); (clear pG pI nZ pJ hb aji); (obtain ⟨aJ6, aJ7, axD⟩ := Kd.fJ ajj.out); ((first | subst axD | (injection axD with EJ Pz EK; have PD := EJ.symm; have PE := EK.symm; clear EJ Pz EK; subst PD; subst PE)))
 (refine hK.out _ _ aeX (fun hHeld => ?_)); (clear hK K); (refine fC (a' := ?_) ?_ ?_)
 rotate_left
 ·show Act.put _ (some 15) _ = _
  (simp only [mM, mO, mP, mQ, dM, eu]); (rfl)
 (refine kN (i := 11) (N := some 16) #[true, true, true, true, true, true, true, true, true, true, true, true, false] rfl rfl (gG bI.out (by kernel_rfl)) (by decide) (fun K hK => ?_)); (refine kD Try.func131 (by kernel_rfl) rfl #[.slice aJ6 aug.length aJ7] (by rfl) rfl rfl (by (try simp only [List.map_toArray, List.map_cons, List.map_nil]); first | done | rfl) ?_); (with_reducible refine (fV.calls k _ _ aug QS _ ?fM ?fO A5.out).mono ?_); ((case fM => repeat (first | exact (Kd.dh ajj.out).2.2 | (with_reducible refine Kd.nD ?_ _) | (with_reducible refine Kd.nG ?_ _) | (with_reducible refine Kd.qp ?_)))); ((case fO => exact (Kd.dh ajj.out).2.1)); (rintro e w' ⟨rfl, ⟨nd, rfl⟩⟩); (refine ⟨_, rfl, ?_⟩)
 (refine hK.out _ _ aeX (fun hHeld => ?_)); (clear hK K); (refine fC (a' := ?_) ?_ ?_)
 rotate_left
 ·show Act.put _ (some 16) _ = _
  (simp only [mM, mO, mP, mQ, dM, eu]); (rfl)
 refine gI 12 4 bI.out ?_
 (refine lU (jh bI.out (by kernel_rfl)) ?_); (try go_wp2); (go_ret); (exact ⟨by first | rfl | (simp [*, bg, bn] <;> rfl), ajh⟩)

end Go.Proofs.Ytnklnjghecmihaa.L2
