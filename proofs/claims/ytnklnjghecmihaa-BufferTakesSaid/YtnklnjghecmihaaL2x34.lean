/- tight -/ -- written by wip/myprint.py
import Derived.Test.YtnklnjghecmihaaL2x0
import Derived.Test.YtnklnjghecmihaaL2P0
namespace Go.Proofs.Ytnklnjghecmihaa.L2
open Go.RowKit Go.Proofs.YtnklnjghecmihaaW aQ dV fP Mine
attribute [local go_sem] iM iO jk jl gW gX iP iQ iK iL dP dR dQ
set_option linter.unusedVariables false
set_option linter.unusedSimpArgs false
theorem arG {P : Prop} (h : P := by (with_reducible repeat first | exact HB.out | apply mG | apply ni | apply ny) <;> exact HB.out) : P := h
theorem arH {P : Prop} (h : P := by (with_reducible repeat first | exact HB.out | apply mG | apply ni | apply ny | refine jW ?_ afj.out) <;> exact HB.out) : P := h
theorem qC {P : Prop} (h : P := by (with_reducible repeat first | apply iR | apply iT | apply iJ); exact nS.out) : P := h
theorem arI {P : Prop} (h : P := by (with_reducible repeat first | exact HB.out | apply mG | apply ni | apply ny | refine jW ?_ afj.out | refine jW ?_ akj.out) <;> exact HB.out) : P := h
theorem sH {P : Prop} (h : P := by (with_reducible repeat first | apply iR | apply iT | apply iJ); exact oN.out) : P := h
theorem uH {P : Prop} (h : P := by (with_reducible repeat first | apply iR | apply iT | apply iJ); exact qg.out) : P := h
theorem DK {P : Prop} (h : P := by (with_reducible repeat first | exact HB.out | apply mG | apply ni | apply ny | refine jW ?_ afj.out | refine jW ?_ akj.out | refine jW ?_ arJ.out) <;> exact HB.out) : P := h
theorem arK {P : Prop} (h : P := by (with_reducible repeat first | apply iR | apply iT | apply iJ); refine bJ (cs := #[.string ⟨#[]⟩, .string ⟨#[]⟩]) ?_ 1 _ rfl; (with_reducible repeat first | apply iR | apply iT | apply iJ); refine bJ (cs := #[.string ⟨#[]⟩, .string ⟨#[]⟩]) ?_ 0 _ rfl; (with_reducible repeat first | apply iR | apply iT | apply iJ); exact qg.out) : P := h
theorem Qy {P : Prop} (h : P := by exact ⟨(b_ nS 0), (b_ nS 1), (b_ oN 0), (b_ oN 1)⟩) : P := h
theorem afk {P : Prop} (h : P := by simp only [sS, Act.put, List.setIfInBounds_toArray, List.set_cons_zero, List.set_cons_succ]) : P := h
theorem YZ {P : Prop} (h : P := by (with_reducible repeat first | apply iR | apply iT | apply iJ); exact vJ.out) : P := h
theorem I4 {P : Prop} (h : P := by (with_reducible repeat first | exact HB.out | apply mG | apply ni | apply ny | refine jW ?_ afj.out | refine jW ?_ akj.out | refine jW ?_ arJ.out | refine jW ?_ LW.out) <;> exact HB.out) : P := h
theorem akk {P : Prop} (h : P := by exact ⟨((cell_far (p := ⟨lK, _, none⟩) kE.out _).trans (((cell_far (p := ⟨lK, _, none⟩) kE.out _).trans (hHeld.1)))), ((cell_far (p := ⟨lK, _, none⟩) kE.out _).trans (((cell_far (p := ⟨lK, _, none⟩) kE.out _).trans (hHeld.2.1)))), ((cell_far (p := ⟨lK, _, none⟩) kF.out _).trans (((cell_far (p := ⟨lK, _, none⟩) kF.out _).trans (hHeld.2.2.1)))), ((cell_far (p := ⟨lK, _, none⟩) kF.out _).trans (((cell_far (p := ⟨lK, _, none⟩) kF.out _).trans (hHeld.2.2.2))))⟩) : P := h
theorem akl {P : Prop} (h : P := by (with_reducible repeat (first | refine iR ?_ _ | refine iT ?_ | refine iJ ?_ _ | refine Pg ?_ kE.out _)); exact nS.out) : P := h
theorem akm {P : Prop} (h : P := by (with_reducible repeat (first | refine iR ?_ _ | refine iT ?_ | refine iJ ?_ _ | refine Pg ?_ kF.out _)); exact oN.out) : P := h
theorem akn {P : Prop} (h : P := by (with_reducible repeat (first | refine iR ?_ _ | refine iT ?_ | refine iJ ?_ _ | refine Pg ?_ l9.out _)); exact qg.out) : P := h
theorem ako {P : Prop} (h : P := by (with_reducible repeat first | apply iR | apply iT | apply iJ); refine bJ (cs := #[.string (Ey aI bf), .string ⟨#[]⟩]) ?_ 1 _ rfl; (with_reducible repeat first | apply iR | apply iT | apply iJ); refine bJ (cs := #[.string ⟨#[]⟩, .string ⟨#[]⟩]) ?_ 0 _ rfl; (with_reducible repeat first | apply iR | apply iT | apply iJ); exact vJ.out) : P := h

/-! ### key_Meet: function 135 -/
def fZ.j0 : Nat → Bool → ByteArray → ByteArray → ByteArray → ByteArray → Option (ByteArray × ByteArray × Bool)
 | 0, _, _, _, _, _ => none
 | k + 1, x14, afl, anh, afm, ani => if x14 = true then (some ((⟨#[]⟩ : ByteArray), (⟨#[]⟩ : ByteArray), false)) else ((rF.f anh ani).bind fun zC => ((eH.f (Ey afl afm) zC).bind fun aa6 => (if aa6 = true then (some (Ey afl afm, zC, true)) else (some ((⟨#[]⟩ : ByteArray), (⟨#[]⟩ : ByteArray), false)))))
def fZ.f (k : Nat) (aI : ByteArray) (aN : ByteArray) (bf : ByteArray) (aZ : ByteArray) : Option (ByteArray × ByteArray × Bool) := (eH.f aI aN).bind fun ahP => (if ahP = true then ((eH.f bf aZ).bind fun t208 => (fZ.j0 k (!t208) aI aN bf aZ)) else (fZ.j0 k true aI aN bf aZ))
theorem fZ.gB : ∀ k, (∀ y0 y1 y2 y3 y4, dO (fZ.j0 k y0 y1 y2 y3 y4) (fZ.j0 (k + 1) y0 y1 y2 y3 y4))
 | 0 => fun _ _ _ _ _ r h => by simp [fZ.j0] at h
 | k + 1 => by
  have lS := fZ.gB k
  ·intro y0 y1 y2 y3 y4
   unfold fZ.j0
   repeat' (with_reducible first | exact lS _ _ _ _ _ | exact dO.refl _ | exact dO.none _ | refine dO.ite ?_ ?_ | refine dO.bind ?_ (fun _ => ?_))
theorem fZ.mono : ∀ a0 a1 a2 a3 k, dO (fZ.f k a0 a1 a2 a3) (fZ.f (k + 1) a0 a1 a2 a3) := by
 (intro a0 a1 a2 a3 k); (have lS := fZ.gB k); (unfold fZ.f)
 repeat' (with_reducible first | exact lS _ _ _ _ _ | exact dO.refl _ | exact dO.none _ | refine dO.ite ?_ ?_ | refine dO.bind ?_ (fun _ => ?_))
def fZ.T3 : Bool × List (List Nat × List Nat) := (true, [([], []), ([0], [0]), ([], []), ([2], [2]), ([1, 3], [1, 3]), ([], []), ([5], [5]), ([], []), ([7], [7]), ([6, 8], [6, 8]), ([4, 9], [4, 9]), ([], []), ([11, 10, 9, 0, 1, 2, 3, 4, 5, 6, 7, 8, 9, 10, 11], [10, 11])])
def fZ.B3 : List Nat := [0, 1, 0, 4, 15, 0, 32, 0, 128, 480, 1023, 0, 4095]
theorem fZ.amO : nX .any (opsOf Try.f135 3) = fZ.T3 := by kernel_rfl
theorem fZ.aeZ : kH fZ.T3.2 fZ.B3 = true := by kernel_rfl
set_option maxHeartbeats 8000000 in
set_option maxRecDepth 100000 in
theorem fZ.calls (k : Nat) (aI : ByteArray) (aN : ByteArray) (bf : ByteArray) (aZ : ByteArray) (r1 : ByteArray) (r2 : ByteArray) (r3 : Bool) (w : World) (h : fZ.f k aI aN bf aZ = some (r1, r2, r3)) :
  Calls Try.prog 135 #[.agg #[.string aI, .string aN], .agg #[.string bf, .string aZ]] w fun e w' => e = .returned (.tuple #[.agg #[.string r1, .string r2], .bool r3]) ∧ Below w.heap.size w w' := by
 (have H_ := Try.underlying48); (have HB := ah.mk (Below.refl w.heap.size w)); (have H : ((eH.f aI aN).bind fun ahP => (if ahP = true then ((eH.f bf aZ).bind fun t208 => (fZ.j0 k (!t208) aI aN bf aZ)) else (fZ.j0 k true aI aN bf aZ))) = some (r1, r2, r3) := h); (clear h); (have X6 := ah.mk H); (clear H); (go_enter Try.func135, Try.ntmps135)
 go_upto_region 1 with (first | ((with_reducible refine bM (N := 2) rfl ?_); refine bU ?hg (N := 2) ?hd (cs := #[.string aI, .string aN]) (t := 48) ?hr ?_; (case hd => rfl); (case hg => rfl); (case hr => first | (go_simp; done) | (go_simp; rfl)); intro sU hg w4 hbox hb; have nS := ah.mk (hbox); have ayX := ah.mk (hs_ hg (arG)); replace HB := ah.mk (ak (arG) hb); have afj := ayX; clear hb hbox hg) | ((with_reducible refine bM (N := 3) rfl ?_); refine bU ?hg (N := 3) ?hd (cs := #[.string bf, .string aZ]) (t := 48) ?hr ?_; (case hd => rfl); (case hg => rfl); (case hr => first | (go_simp; done) | (go_simp; rfl)); intro sV hg w5 hbox hb; have oN := ah.mk (hbox); have ayY := ah.mk (hs_ hg (arH)); replace HB := ah.mk (ak (arH) hb); have akj := ayY; have Wx := ah.mk (pq hg (qC)); have Wy := ah.mk (pz hg (qC)); replace nS := ah.mk (aA (qC) hb); clear hb hbox hg) | ((with_reducible refine bM (N := 4) rfl ?_); refine bU ?hg (N := 4) ?hd (cs := #[.string ⟨#[]⟩, .string ⟨#[]⟩]) (t := 48) ?hr ?_; (case hd => rfl); (case hg => rfl); (case hr => first | (go_simp; done) | (go_simp; rfl)); intro xJ hg w6 hbox hb; have qg := ah.mk (hbox); have ayZ := ah.mk (hs_ hg (arI)); replace HB := ah.mk (ak (arI) hb); have arJ := ayZ; have ES := ah.mk (pq hg (qC)); have ET := ah.mk (pz hg (qC)); replace nS := ah.mk (aA (qC) hb); have KP := ah.mk (pq hg (sH)); have KQ := ah.mk (pz hg (sH)); replace oN := ah.mk (aA (sH) hb); clear hb hbox hg))
 ((try simp only [Act.put, List.setIfInBounds_toArray, List.set_cons_zero, List.set_cons_succ])); (go_cut [14] (fun v14 wc => ∃ (kq : Nat) (afn : Bool), v14 = .bool afn ∧ ah (fZ.j0 kq afn aI aN bf aZ = some (r1, r2, r3)) ∧ ah (kq ≤ k) ∧ ah (wc.heap[sU]? = some (.cells #[.string aI, .string aN] 48 (0, 0))) ∧ ah (wc.heap[sV]? = some (.cells #[.string bf, .string aZ] 48 (0, 0))) ∧ ah (wc.heap[xJ]? = some (.cells #[.string ⟨#[]⟩, .string ⟨#[]⟩] 48 (0, 0))) ∧ ah (Below w.heap.size w wc)))
 case first =>
  (have H := X6.out); (clear X6); (replace H := Option.bind_eq_some_iff.mp H); (obtain ⟨ahP, VX, H⟩ := H); (replace H : (if ahP = true then ((eH.f bf aZ).bind fun t208 => (fZ.j0 k (!t208) aI aN bf aZ)) else (fZ.j0 k true aI aN bf aZ)) = some (r1, r2, r3) := H); (have A7 := ah.mk VX); (clear VX); (by_cases c8 : ahP = true)
  ·subst c8
   (have H1 : ((eH.f bf aZ).bind fun t208 => (fZ.j0 k (!t208) aI aN bf aZ)) = some (r1, r2, r3) := by rw [if_pos rfl] at H; exact H); (clear H); (have H := H1); (clear H1); (replace H := Option.bind_eq_some_iff.mp H); (obtain ⟨t208, TV, H⟩ := H); (replace H : (fZ.j0 k (!t208) aI aN bf aZ) = some (r1, r2, r3) := H); (have A9 := ah.mk TV); (clear TV); (have H' := ah.mk H); (clear H); (have ay0 := Wx.out); (have ay1 := Wy.out); (have ay2 := ES.out); (have ay3 := ET.out); (obtain ⟨KA, KC, KD, KE⟩ := oQ nS)
   go_wp2_with (first | ((with_reducible refine aH (f := 98) rfl ?_); refine dD (some 8) rfl rfl Try.func98 (by kernel_rfl) rfl #[.agg #[.string aI, .string aN]] rfl (by (try simp only [List.map_toArray, List.map_cons, List.map_nil]); first | done | rfl) ?_; (with_reducible refine (eH.calls aI aN true _ A7.out).mono ?_); rintro e w13 ⟨rfl, hb⟩; refine ⟨_, rfl, ?_⟩; replace nS := ah.mk (aA (qC) hb); replace oN := ah.mk (aA (sH) hb); replace qg := ah.mk (aA (uH) hb); replace HB := ah.mk (ak (DK) hb); (try clear hb); (try clear hb2); (try clear hk); (try clear hi); have aNc := KP.out; have aNd := KQ.out; obtain ⟨RS, RU, RV, RX⟩ := oQ oN) | (go_at_call 98; (with_reducible refine (eH.calls bf aZ t208 _ A9.out).mono ?_); rintro e w16 ⟨rfl, hb⟩; replace nS := ah.mk (aA (qC) hb); replace oN := ah.mk (aA (sH) hb); replace qg := ah.mk (aA (uH) hb); replace HB := ah.mk (ak (DK) hb); (try clear hb); (try clear hb2); (try clear hk); (try clear hi)))
   go_meet
   case rel => exact ⟨_, (!t208), (by first | rfl | (simp; done) | (simp [*]; done)), H', ⟨by first | omega | exact Nat.le_refl _⟩, ⟨qC⟩, ⟨sH⟩, ⟨uH⟩, ⟨DK⟩⟩
  ·replace c8 := Bool.eq_false_iff.mpr c8
   (subst c8); (have H1 : (fZ.j0 k true aI aN bf aZ) = some (r1, r2, r3) := by rw [if_neg (show ¬ (false = true) by decide)] at H; exact H); (clear H); (have H := H1); (clear H1); (have H' := ah.mk H); (clear H); (have aw0 := Wx.out); (have aw1 := Wy.out); (have aNe := ES.out); (have aNf := ET.out); (obtain ⟨zO, zQ, zS, zT⟩ := oQ nS)
   go_wp2_with (first | ((with_reducible refine aH (f := 98) rfl ?_); refine dD (some 8) rfl rfl Try.func98 (by kernel_rfl) rfl #[.agg #[.string aI, .string aN]] rfl (by (try simp only [List.map_toArray, List.map_cons, List.map_nil]); first | done | rfl) ?_; (with_reducible refine (eH.calls aI aN false _ A7.out).mono ?_); rintro e w20 ⟨rfl, hb⟩; refine ⟨_, rfl, ?_⟩; replace nS := ah.mk (aA (qC) hb); replace oN := ah.mk (aA (sH) hb); replace qg := ah.mk (aA (uH) hb); replace HB := ah.mk (ak (DK) hb); (try clear hb); (try clear hb2); (try clear hk); (try clear hi)))
   go_meet
   case rel => exact ⟨_, (true), (by first | rfl | (simp; done) | (simp [*]; done)), H', ⟨by first | omega | exact Nat.le_refl _⟩, ⟨qC⟩, ⟨sH⟩, ⟨uH⟩, ⟨DK⟩⟩
 case rest =>
  (clear X6); (try clear c1); (try clear p2); (try clear c8); (try clear c9); (try clear c10); (try clear c11); (try clear c13); (try clear c14); (try clear c17); (try clear c18); (try clear KA); (try clear KC); (try clear RS); (try clear RU); (try clear zO); (try clear zQ); (try clear KD); (try clear KE); (try clear RV); (try clear RX); (try clear zS); (try clear zT); (obtain ⟨kq, afn, rfl, HA, HJ2, nS, oN, qg, HB⟩ := hcut)
  cases kq with
  | zero => exact absurd HA.out (by simp [fZ.j0])
  | succ IE =>
   (have H := HA.out); (clear HA); (simp only [fZ.j0] at H); (by_cases c21 : afn = true)
   ·subst c21
    (have H1 : (some ((⟨#[]⟩ : ByteArray), (⟨#[]⟩ : ByteArray), false)) = some (r1, r2, r3) := by rw [if_pos rfl] at H; exact H); (clear H); (have H := H1); (clear H1); (simp only [Option.some.injEq, Prod.mk.injEq] at H); (obtain ⟨rfl, rfl, rfl⟩ := H); (have ael := ET.out); (have aem := ES.out); (have akh := KQ.out); (have aki := KP.out); (obtain ⟨KF, KG, KH, KI⟩ := oQ qg); (go_wp2)
    (refine bodyPost_ret (oZ rfl _ _ xJ 48 #[.string ⟨#[]⟩, .string ⟨#[]⟩] (0, 0) _ rfl (arK) Try.underlying48 rfl (by kernel_rfl)) rfl ?_); (exact ⟨by first | rfl | (simp [*, bg, bn] <;> rfl), DK⟩)
   ·replace c21 := Bool.eq_false_iff.mpr c21
    (subst c21); (have H1 : ((rF.f aN aZ).bind fun zC => ((eH.f (Ey aI bf) zC).bind fun aa6 => (if aa6 = true then (some (Ey aI bf, zC, true)) else (some ((⟨#[]⟩ : ByteArray), (⟨#[]⟩ : ByteArray), false))))) = some (r1, r2, r3) := by rw [if_neg (show ¬ (false = true) by decide)] at H; exact H); (clear H); (have H := H1); (clear H1); (replace H := Option.bind_eq_some_iff.mp H); (obtain ⟨zC, akp, H⟩ := H); (replace H : ((eH.f (Ey aI bf) zC).bind fun aa6 => (if aa6 = true then (some (Ey aI bf, zC, true)) else (some ((⟨#[]⟩ : ByteArray), (⟨#[]⟩ : ByteArray), false)))) = some (r1, r2, r3) := H); (have A25 := ah.mk akp); (clear akp); (replace H := Option.bind_eq_some_iff.mp H); (obtain ⟨aa6, ay4, H⟩ := H); (replace H : (if aa6 = true then (some (Ey aI bf, zC, true)) else (some ((⟨#[]⟩ : ByteArray), (⟨#[]⟩ : ByteArray), false))) = some (r1, r2, r3) := H); (have A26 := ah.mk ay4); (clear ay4); (by_cases Qh : aa6 = true)
    ·subst Qh
     (have H1 : (some (Ey aI bf, zC, true)) = some (r1, r2, r3) := by rw [if_pos rfl] at H; exact H); (clear H); (have H := H1); (clear H1); (simp only [Option.some.injEq, Prod.mk.injEq] at H); (obtain ⟨rfl, rfl, rfl⟩ := H); (try go_wp2); (replace nS := ah.mk (iw nS.out)); (replace oN := ah.mk (iw oN.out)); (replace qg := ah.mk (iw qg.out)); (replace HB := ah.mk (fB HB.out)); (refine jP (n := 13) (S := fun w' => w'.cell? ⟨sU, 0, none⟩ = some (.string aI) ∧ w'.cell? ⟨sU, 1, none⟩ = some (.string aN) ∧ w'.cell? ⟨sV, 0, none⟩ = some (.string bf) ∧ w'.cell? ⟨sV, 1, none⟩ = some (.string aZ)) (ds := []) #[false, false, false, false, false, false, false, false, false, false, false, false, false] (by kernel_rfl) rfl rfl ⟨(b_ nS 0), (b_ nS 1), (b_ oN 0), (b_ oN 1)⟩ (fun hHeld => ?_); refine gU fZ.amO fZ.aeZ (fun bI mF => ?_))
     (generalize wc.drew = w28 at nS oN qg HB hHeld ⊢); (refine ji 0 16 #[true, false, false, false, false, false, false, false, false, false, false, false, false] bI.out ?_)
     refine ji 2 18 #[true, false, true, false, false, false, false, false, false, false, false, false, false] bI.out ?_
     refine ji 5 21 #[true, false, true, false, false, true, false, false, false, false, false, false, false] bI.out ?_
     refine ji 7 23 #[true, false, true, false, false, true, false, true, false, false, false, false, false] bI.out ?_
     refine Ez (i := 1) (N := some 17) (v := ?_) (a' := ?_) #[true, true, true, false, false, true, false, true, false, false, false, false, false] bI.out mF.out rfl rfl (.inl ⟨by rfl, ?_⟩) hHeld ?_ ?_; rotate_left
     ·rintro w' ⟨s0, s1, s2, s3⟩; go_simp; with_reducible rfl
     rotate_left
     ·simp only [mM, mO, mP, mQ, dM, eu]; rfl
     refine Ez (i := 3) (N := some 19) (v := ?_) (a' := ?_) #[true, true, true, true, false, true, false, true, false, false, false, false, false] bI.out mF.out rfl rfl (.inl ⟨by rfl, ?_⟩) hHeld ?_ ?_; rotate_left
     ·rintro w' ⟨s0, s1, s2, s3⟩; go_simp; with_reducible rfl
     rotate_left
     ·simp only [mM, mO, mP, mQ, dM, eu]; rfl
     refine ji 4 20 #[true, true, true, true, true, true, false, true, false, false, false, false, false] bI.out ?_
     refine Ez (i := 6) (N := some 22) (v := ?_) (a' := ?_) #[true, true, true, true, true, true, true, true, false, false, false, false, false] bI.out mF.out rfl rfl (.inl ⟨by rfl, ?_⟩) hHeld ?_ ?_; rotate_left
     ·rintro w' ⟨s0, s1, s2, s3⟩; go_simp; with_reducible rfl
     rotate_left
     ·simp only [mM, mO, mP, mQ, dM, eu]; rfl
     refine Ez (i := 8) (N := some 24) (v := ?_) (a' := ?_) #[true, true, true, true, true, true, true, true, true, false, false, false, false] bI.out mF.out rfl rfl (.inl ⟨by rfl, ?_⟩) hHeld ?_ ?_; rotate_left
     ·rintro w' ⟨s0, s1, s2, s3⟩; go_simp; with_reducible rfl
     rotate_left
     ·simp only [mM, mO, mP, mQ, dM, eu]; rfl
     refine Nk (σ := Nat) 1 #[true, true, true, true, true, true, true, true, true, true, true, true, false] (fun s_ => [(25, .string zC), (6, .pointer (some ⟨s_, 0, none⟩)), (26, .agg #[.string (Ey aI bf), .string zC])]) (fun s_ w' => (w'.cell? ⟨sU, 0, none⟩ = some (.string aI) ∧ w'.cell? ⟨sU, 1, none⟩ = some (.string aN) ∧ w'.cell? ⟨sV, 0, none⟩ = some (.string bf) ∧ w'.cell? ⟨sV, 1, none⟩ = some (.string aZ)) ∧ (w'.heap[sU]? = some (.cells #[.string aI, .string aN] 48 (0, 0))) ∧ (w'.heap[sV]? = some (.cells #[.string bf, .string aZ] 48 (0, 0))) ∧ (w'.heap[xJ]? = some (.cells #[.string ⟨#[]⟩, .string ⟨#[]⟩] 48 (0, 0))) ∧ (w'.heap[s_]? = some (.cells #[.string ⟨#[]⟩, .string ⟨#[]⟩] 48 (0, 0))) ∧ (w.heap.size ≤ s_) ∧ (w.heap.size ≤ s_) ∧ (sU ≠ s_) ∧ (s_ ≠ sU) ∧ (sV ≠ s_) ∧ (s_ ≠ sV) ∧ (xJ ≠ s_) ∧ (s_ ≠ xJ) ∧ (Below w.heap.size w w')) ?_ ?_
     rotate_left
     ·intro oL
      refine MB (i := 9) (j := 11) (Ni := some 25) (Nj := some 6) #[true, true, true, true, true, true, true, true, true, true, false, false, false] #[true, true, true, true, true, true, true, true, true, false, false, true, false] rfl rfl rfl rfl (vS bI.out (by kernel_rfl)) (by decide) (by decide) (fun K hK => ?_) (fun K hK => ?_)
      ·skip
       (refine kD Try.func159 (by kernel_rfl) rfl #[.string aN, .string aZ] (by rfl) rfl rfl (by (try simp only [List.map_toArray, List.map_cons, List.map_nil]); first | done | rfl) ?_); (with_reducible refine (rF.calls aN aZ zC _ A25.out).mono ?_); (rintro e w' ⟨rfl, ⟨nd, rfl⟩⟩); (refine ⟨_, rfl, ?_⟩); (refine hK.out _ _ Qy (fun hHeld => ?_)); (clear hK K); (refine fC (a' := ?_) ?_ ?_)
       rotate_left
       ·show Act.put _ (some 25) _ = _
        (simp only [mM, mO, mP, mQ, dM, eu]); (rfl)
       refine ji 10 26 #[true, true, true, true, true, true, true, true, true, true, true, false, false] bI.out ?_
       (refine kN (i := 11) (N := some 6) #[true, true, true, true, true, true, true, true, true, true, true, true, false] rfl rfl (gG bI.out (by kernel_rfl)) (by decide) (fun K hK => ?_)); (refine jH ?hg (N := 6) ?hd (cs := #[.string ⟨#[]⟩, .string ⟨#[]⟩]) (t := 48) ?hr ?_; (case hd => rfl); (case hg => rfl); (case hr => first | (go_simp; done) | (go_simp; rfl))); (intro lK hg N8 hbox hb); (have pG := ah.mk (aA (qC) hb)); (have pI := ah.mk (aA (sH) hb)); (have nZ := ah.mk (aA (uH) hb))
       (have pJ := ah.mk (ak (DK) hb)); (have vC := ah.mk (hbox)); (have tH := ah.mk (hs_ hg (DK))); (have xO := tH); (have yU := ah.mk (pq hg (qC)))
       (have EU := ah.mk (pz hg (qC))); (have EW := ah.mk (pq hg (sH))); (have qE := ah.mk (pz hg (sH))); (have qF := ah.mk (pq hg (uH)))
       (have qG := ah.mk (pz hg (uH))); (clear nS oN qg HB); (have nS := pG); (have oN := pI); (have qg := nZ); (have HB := pJ); (have vJ := vC); (have Ov := tH); (have LW := xO); (have kE := yU); (have mV := EU); (have kF := EW); (have mW := qE); (have l9 := qF); (have mX := qG); (clear pG pI nZ pJ vC tH xO yU EU EW qE qF qG hb hbox hg); (refine hK.out _ _ Qy (fun hHeld => ?_)); (clear hK K); (refine fC (a' := ?_) ?_ ?_)
       rotate_left
       ·show Act.put _ (some 6) _ = _
        (simp only [mM, mO, mP, mQ, dM, eu]); (rfl)
       exact fC (afk) (oL (lK) _ ⟨hHeld, (qC), (sH), (uH), (YZ), Ov.out, LW.out, kE.out, mV.out, kF.out, mW.out, l9.out, mX.out, (I4)⟩)
      ·skip
       (refine jH ?hg (N := 6) ?hd (cs := #[.string ⟨#[]⟩, .string ⟨#[]⟩]) (t := 48) ?hr ?_; (case hd => rfl); (case hg => rfl); (case hr => first | (go_simp; done) | (go_simp; rfl))); (intro lK hg N8 hbox hb); (have pG := ah.mk (aA (qC) hb)); (have pI := ah.mk (aA (sH) hb)); (have nZ := ah.mk (aA (uH) hb)); (have pJ := ah.mk (ak (DK) hb)); (have vC := ah.mk (hbox))
       (have tH := ah.mk (hs_ hg (DK))); (have xO := tH); (have yU := ah.mk (pq hg (qC))); (have EU := ah.mk (pz hg (qC)))
       (have EW := ah.mk (pq hg (sH))); (have qE := ah.mk (pz hg (sH))); (have qF := ah.mk (pq hg (uH))); (have qG := ah.mk (pz hg (uH))); (clear nS oN qg HB); (have nS := pG); (have oN := pI); (have qg := nZ)
       (have HB := pJ); (have vJ := vC); (have Ov := tH); (have LW := xO); (have kE := yU); (have mV := EU); (have kF := EW); (have mW := qE); (have l9 := qF); (have mX := qG); (clear pG pI nZ pJ vC tH xO yU EU EW qE qF qG hb hbox hg); (refine hK.out _ _ Qy (fun hHeld => ?_)); (clear hK K); (refine fC (a' := ?_) ?_ ?_)
       rotate_left
       ·show Act.put _ (some 6) _ = _
        (simp only [mM, mO, mP, mQ, dM, eu]); (rfl)
       (refine kN (i := 9) (N := some 25) #[true, true, true, true, true, true, true, true, true, true, false, true, false] rfl rfl (gG bI.out (by kernel_rfl)) (by decide) (fun K hK => ?_)); (refine kD Try.func159 (by kernel_rfl) rfl #[.string aN, .string aZ] (by rfl) rfl rfl (by (try simp only [List.map_toArray, List.map_cons, List.map_nil]); first | done | rfl) ?_); (with_reducible refine (rF.calls aN aZ zC _ A25.out).mono ?_); (rintro e w' ⟨rfl, ⟨nd, rfl⟩⟩); (refine ⟨_, rfl, ?_⟩); (refine hK.out _ _ Qy (fun hHeld => ?_)); (clear hK K); (refine fC (a' := ?_) ?_ ?_)
       rotate_left
       ·show Act.put _ (some 25) _ = _
        (simp only [mM, mO, mP, mQ, dM, eu]); (rfl)
       refine ji 10 26 #[true, true, true, true, true, true, true, true, true, true, true, true, false] bI.out ?_
       exact fC (afk) (oL (lK) _ ⟨hHeld, (qC), (sH), (uH), (YZ), Ov.out, LW.out, kE.out, mV.out, kF.out, mW.out, l9.out, mX.out, (I4)⟩)
     (rintro lK w30 ⟨hS_, Qm, Qn, Qo, Qp, WA, WB, WC, WE, h8_, h9_, Ox, Oy, Oz⟩); (replace nS : ah (w30.heap[sU]? = some (.cells #[.string aI, .string aN] 48 (0, 0))) := ⟨Qm⟩); (replace oN : ah (w30.heap[sV]? = some (.cells #[.string bf, .string aZ] 48 (0, 0))) := ⟨Qn⟩); (replace qg : ah (w30.heap[xJ]? = some (.cells #[.string ⟨#[]⟩, .string ⟨#[]⟩] 48 (0, 0))) := ⟨Qo⟩); (have vJ : ah (w30.heap[lK]? = some (.cells #[.string ⟨#[]⟩, .string ⟨#[]⟩] 48 (0, 0))) := ⟨Qp⟩); (have Ov : ah (w.heap.size ≤ lK) := ⟨WA⟩); (have LW : ah (w.heap.size ≤ lK) := ⟨WB⟩); (have kE : ah (sU ≠ lK) := ⟨WC⟩); (have mV : ah (lK ≠ sU) := ⟨WE⟩); (have kF : ah (sV ≠ lK) := ⟨h8_⟩); (have mW : ah (lK ≠ sV) := ⟨h9_⟩); (have l9 : ah (xJ ≠ lK) := ⟨Ox⟩); (have mX : ah (lK ≠ xJ) := ⟨Oy⟩); (replace HB : ah (Below w.heap.size w w30) := ⟨Oz⟩); (clear Qm Qn Qo Qp WA WB WC WE h8_ h9_ Ox Oy Oz); (have hHeld := hS_); (refine fC (a' := ?_) ?_ ?_)
     rotate_left
     ·simp only [sS, Act.put, List.setIfInBounds_toArray, List.set_cons_zero, List.set_cons_succ]
      rfl
     (refine kN (i := 12) (N := none) #[true, true, true, true, true, true, true, true, true, true, true, true, true] rfl rfl (gG bI.out (by kernel_rfl)) (by decide) (fun K hK => ?_)); (have ay5 : w30.cell? ⟨lK, 0, none⟩ = some (.string ⟨#[]⟩) := (b_ vJ 0)); (have arL := dJ vJ.out 0); (have afo := kE.out); (have anj := kF.out); (have ank := l9.out); (have afp := mV.out); (have anl := mW.out); (have anm := mX.out); (have ay6 : w30.cell? ⟨lK, 1, none⟩ = some (.string ⟨#[]⟩) := (b_ vJ 1)); (have arM := dJ vJ.out 1); (have afq := kE.out); (have ano := kF.out); (have anp := l9.out); (have afr := mV.out); (have anq := mW.out); (have anr := mX.out); (refine t_ (w1 := ?_) (by rfl) rfl ?_ ?_)
     rotate_left
     ·go_simp
      rfl
     (refine hK.out _ _ akk (fun hHeld => ?_)); (clear hK K); (refine lU (jh bI.out (by kernel_rfl)) ?_); (have aNg := mV.out); (have aNh := kE.out); (have arN := mW.out); (have arO := kF.out); (have arP := mX.out); (have arQ := l9.out); (obtain ⟨Y0, Y1, Y2, Y3⟩ := oQ vJ)
     try go_wp2_with (first | ((with_reducible refine aH (f := 98) rfl ?_); refine dD (some 28) rfl rfl Try.func98 (by kernel_rfl) rfl #[.agg #[.string (Ey aI bf), .string zC]] rfl (by (try simp only [List.map_toArray, List.map_cons, List.map_nil]); first | done | rfl) ?_; (with_reducible refine (eH.calls (Ey aI bf) zC true _ A26.out).mono ?_); rintro e w37 ⟨rfl, hb⟩; refine ⟨_, rfl, ?_⟩; replace nS := ah.mk (aA (g := sU) (o := .cells #[.string aI, .string aN] 48 (0, 0)) (akl) hb); replace oN := ah.mk (aA (g := sV) (o := .cells #[.string bf, .string aZ] 48 (0, 0)) (akm) hb); replace qg := ah.mk (aA (g := xJ) (o := .cells #[.string ⟨#[]⟩, .string ⟨#[]⟩] 48 (0, 0)) (akn) hb); replace vJ := ah.mk (aA (g := lK) (o := .cells #[.string (Ey aI bf), .string zC] 48 (0, 0)) (ako) hb); replace HB := ah.mk (ak (I4) hb); (try clear hb); (try clear hb2); (try clear hk); (try clear hi); obtain ⟨afs, aft, afu, afv⟩ := oQ vJ; have aNi := ET.out; have aNj := ES.out; have aNk := KQ.out; have aNl := KP.out; obtain ⟨ant, anu, anv, anw⟩ := oQ qg))
     (refine bodyPost_ret (oZ rfl _ _ xJ 48 #[.string (Ey aI bf), .string zC] (0, 0) _ rfl (by (with_reducible repeat first | apply iR | apply iT | apply iJ); refine bJ (cs := #[.string (Ey aI bf), .string ⟨#[]⟩]) ?_ 1 _ rfl; (with_reducible repeat first | apply iR | apply iT | apply iJ); refine bJ (cs := #[.string ⟨#[]⟩, .string ⟨#[]⟩]) ?_ 0 _ rfl; (with_reducible repeat first | apply iR | apply iT | apply iJ); exact qg.out) Try.underlying48 rfl (by kernel_rfl)) rfl ?_); (exact ⟨by first | rfl | (simp [*, bg, bn] <;> rfl), I4⟩)
    ·replace Qh := Bool.eq_false_iff.mpr Qh
     (subst Qh); (have H1 : (some ((⟨#[]⟩ : ByteArray), (⟨#[]⟩ : ByteArray), false)) = some (r1, r2, r3) := by rw [if_neg (show ¬ (false = true) by decide)] at H; exact H); (clear H); (have H := H1); (clear H1); (simp only [Option.some.injEq, Prod.mk.injEq] at H); (obtain ⟨rfl, rfl, rfl⟩ := H); (try go_wp2); (replace nS := ah.mk (iw nS.out)); (replace oN := ah.mk (iw oN.out)); (replace qg := ah.mk (iw qg.out)); (replace HB := ah.mk (fB HB.out))
     (refine jP (n := 13) (S := fun w' => w'.cell? ⟨sU, 0, none⟩ = some (.string aI) ∧ w'.cell? ⟨sU, 1, none⟩ = some (.string aN) ∧ w'.cell? ⟨sV, 0, none⟩ = some (.string bf) ∧ w'.cell? ⟨sV, 1, none⟩ = some (.string aZ)) (ds := []) #[false, false, false, false, false, false, false, false, false, false, false, false, false] (by kernel_rfl) rfl rfl ⟨(b_ nS 0), (b_ nS 1), (b_ oN 0), (b_ oN 1)⟩ (fun hHeld => ?_); refine gU fZ.amO fZ.aeZ (fun bI mF => ?_)); (generalize wc.drew = w42 at nS oN qg HB hHeld ⊢); (refine ji 0 16 #[true, false, false, false, false, false, false, false, false, false, false, false, false] bI.out ?_)
     refine ji 2 18 #[true, false, true, false, false, false, false, false, false, false, false, false, false] bI.out ?_
     refine ji 5 21 #[true, false, true, false, false, true, false, false, false, false, false, false, false] bI.out ?_
     refine ji 7 23 #[true, false, true, false, false, true, false, true, false, false, false, false, false] bI.out ?_
     refine Ez (i := 1) (N := some 17) (v := ?_) (a' := ?_) #[true, true, true, false, false, true, false, true, false, false, false, false, false] bI.out mF.out rfl rfl (.inl ⟨by rfl, ?_⟩) hHeld ?_ ?_; rotate_left
     ·rintro w' ⟨s0, s1, s2, s3⟩; go_simp; with_reducible rfl
     rotate_left
     ·simp only [mM, mO, mP, mQ, dM, eu]; rfl
     refine Ez (i := 3) (N := some 19) (v := ?_) (a' := ?_) #[true, true, true, true, false, true, false, true, false, false, false, false, false] bI.out mF.out rfl rfl (.inl ⟨by rfl, ?_⟩) hHeld ?_ ?_; rotate_left
     ·rintro w' ⟨s0, s1, s2, s3⟩; go_simp; with_reducible rfl
     rotate_left
     ·simp only [mM, mO, mP, mQ, dM, eu]; rfl
     refine ji 4 20 #[true, true, true, true, true, true, false, true, false, false, false, false, false] bI.out ?_
     refine Ez (i := 6) (N := some 22) (v := ?_) (a' := ?_) #[true, true, true, true, true, true, true, true, false, false, false, false, false] bI.out mF.out rfl rfl (.inl ⟨by rfl, ?_⟩) hHeld ?_ ?_; rotate_left
     ·rintro w' ⟨s0, s1, s2, s3⟩; go_simp; with_reducible rfl
     rotate_left
     ·simp only [mM, mO, mP, mQ, dM, eu]; rfl
     refine Ez (i := 8) (N := some 24) (v := ?_) (a' := ?_) #[true, true, true, true, true, true, true, true, true, false, false, false, false] bI.out mF.out rfl rfl (.inl ⟨by rfl, ?_⟩) hHeld ?_ ?_; rotate_left
     ·rintro w' ⟨s0, s1, s2, s3⟩; go_simp; with_reducible rfl
     rotate_left
     ·simp only [mM, mO, mP, mQ, dM, eu]; rfl
     refine Nk (σ := Nat) 1 #[true, true, true, true, true, true, true, true, true, true, true, true, false] (fun s_ => [(25, .string zC), (6, .pointer (some ⟨s_, 0, none⟩)), (26, .agg #[.string (Ey aI bf), .string zC])]) (fun s_ w' => (w'.cell? ⟨sU, 0, none⟩ = some (.string aI) ∧ w'.cell? ⟨sU, 1, none⟩ = some (.string aN) ∧ w'.cell? ⟨sV, 0, none⟩ = some (.string bf) ∧ w'.cell? ⟨sV, 1, none⟩ = some (.string aZ)) ∧ (w'.heap[sU]? = some (.cells #[.string aI, .string aN] 48 (0, 0))) ∧ (w'.heap[sV]? = some (.cells #[.string bf, .string aZ] 48 (0, 0))) ∧ (w'.heap[xJ]? = some (.cells #[.string ⟨#[]⟩, .string ⟨#[]⟩] 48 (0, 0))) ∧ (w'.heap[s_]? = some (.cells #[.string ⟨#[]⟩, .string ⟨#[]⟩] 48 (0, 0))) ∧ (w.heap.size ≤ s_) ∧ (w.heap.size ≤ s_) ∧ (sU ≠ s_) ∧ (s_ ≠ sU) ∧ (sV ≠ s_) ∧ (s_ ≠ sV) ∧ (xJ ≠ s_) ∧ (s_ ≠ xJ) ∧ (Below w.heap.size w w')) ?_ ?_
     rotate_left
     ·intro oL
      refine MB (i := 9) (j := 11) (Ni := some 25) (Nj := some 6) #[true, true, true, true, true, true, true, true, true, true, false, false, false] #[true, true, true, true, true, true, true, true, true, false, false, true, false] rfl rfl rfl rfl (vS bI.out (by kernel_rfl)) (by decide) (by decide) (fun K hK => ?_) (fun K hK => ?_)
      ·skip
       (refine kD Try.func159 (by kernel_rfl) rfl #[.string aN, .string aZ] (by rfl) rfl rfl (by (try simp only [List.map_toArray, List.map_cons, List.map_nil]); first | done | rfl) ?_); (with_reducible refine (rF.calls aN aZ zC _ A25.out).mono ?_); (rintro e w' ⟨rfl, ⟨nd, rfl⟩⟩); (refine ⟨_, rfl, ?_⟩); (refine hK.out _ _ Qy (fun hHeld => ?_)); (clear hK K); (refine fC (a' := ?_) ?_ ?_)
       rotate_left
       ·show Act.put _ (some 25) _ = _
        (simp only [mM, mO, mP, mQ, dM, eu]); (rfl)
       refine ji 10 26 #[true, true, true, true, true, true, true, true, true, true, true, false, false] bI.out ?_
       (refine kN (i := 11) (N := some 6) #[true, true, true, true, true, true, true, true, true, true, true, true, false] rfl rfl (gG bI.out (by kernel_rfl)) (by decide) (fun K hK => ?_)); (refine jH ?hg (N := 6) ?hd (cs := #[.string ⟨#[]⟩, .string ⟨#[]⟩]) (t := 48) ?hr ?_; (case hd => rfl); (case hg => rfl); (case hr => first | (go_simp; done) | (go_simp; rfl))); (intro lK hg w43 hbox hb); (have pG := ah.mk (aA (qC) hb)); (have pI := ah.mk (aA (sH) hb)); (have nZ := ah.mk (aA (uH) hb))
       (have pJ := ah.mk (ak (DK) hb)); (have vC := ah.mk (hbox)); (have tH := ah.mk (hs_ hg (DK))); (have xO := tH); (have yU := ah.mk (pq hg (qC)))
       (have EU := ah.mk (pz hg (qC))); (have EW := ah.mk (pq hg (sH))); (have qE := ah.mk (pz hg (sH))); (have qF := ah.mk (pq hg (uH)))
       (have qG := ah.mk (pz hg (uH))); (clear nS oN qg HB); (have nS := pG); (have oN := pI); (have qg := nZ); (have HB := pJ); (have vJ := vC); (have Ov := tH); (have LW := xO); (have kE := yU); (have mV := EU); (have kF := EW); (have mW := qE); (have l9 := qF); (have mX := qG); (clear pG pI nZ pJ vC tH xO yU EU EW qE qF qG hb hbox hg); (refine hK.out _ _ Qy (fun hHeld => ?_)); (clear hK K); (refine fC (a' := ?_) ?_ ?_)
       rotate_left
       ·show Act.put _ (some 6) _ = _
        (simp only [mM, mO, mP, mQ, dM, eu]); (rfl)
       exact fC (afk) (oL (lK) _ ⟨hHeld, (qC), (sH), (uH), (YZ), Ov.out, LW.out, kE.out, mV.out, kF.out, mW.out, l9.out, mX.out, (I4)⟩)
      ·skip
       (refine jH ?hg (N := 6) ?hd (cs := #[.string ⟨#[]⟩, .string ⟨#[]⟩]) (t := 48) ?hr ?_; (case hd => rfl); (case hg => rfl); (case hr => first | (go_simp; done) | (go_simp; rfl))); (intro lK hg w43 hbox hb); (have pG := ah.mk (aA (qC) hb)); (have pI := ah.mk (aA (sH) hb)); (have nZ := ah.mk (aA (uH) hb)); (have pJ := ah.mk (ak (DK) hb)); (have vC := ah.mk (hbox))
       (have tH := ah.mk (hs_ hg (DK))); (have xO := tH); (have yU := ah.mk (pq hg (qC))); (have EU := ah.mk (pz hg (qC)))
       (have EW := ah.mk (pq hg (sH))); (have qE := ah.mk (pz hg (sH))); (have qF := ah.mk (pq hg (uH))); (have qG := ah.mk (pz hg (uH))); (clear nS oN qg HB); (have nS := pG); (have oN := pI); (have qg := nZ)
       (have HB := pJ); (have vJ := vC); (have Ov := tH); (have LW := xO); (have kE := yU); (have mV := EU); (have kF := EW); (have mW := qE); (have l9 := qF); (have mX := qG); (clear pG pI nZ pJ vC tH xO yU EU EW qE qF qG hb hbox hg); (refine hK.out _ _ Qy (fun hHeld => ?_)); (clear hK K); (refine fC (a' := ?_) ?_ ?_)
       rotate_left
       ·show Act.put _ (some 6) _ = _
        (simp only [mM, mO, mP, mQ, dM, eu]); (rfl)
       (refine kN (i := 9) (N := some 25) #[true, true, true, true, true, true, true, true, true, true, false, true, false] rfl rfl (gG bI.out (by kernel_rfl)) (by decide) (fun K hK => ?_)); (refine kD Try.func159 (by kernel_rfl) rfl #[.string aN, .string aZ] (by rfl) rfl rfl (by (try simp only [List.map_toArray, List.map_cons, List.map_nil]); first | done | rfl) ?_); (with_reducible refine (rF.calls aN aZ zC _ A25.out).mono ?_); (rintro e w' ⟨rfl, ⟨nd, rfl⟩⟩); (refine ⟨_, rfl, ?_⟩); (refine hK.out _ _ Qy (fun hHeld => ?_)); (clear hK K); (refine fC (a' := ?_) ?_ ?_)
       rotate_left
       ·show Act.put _ (some 25) _ = _
        (simp only [mM, mO, mP, mQ, dM, eu]); (rfl)
       refine ji 10 26 #[true, true, true, true, true, true, true, true, true, true, true, true, false] bI.out ?_
       exact fC (afk) (oL (lK) _ ⟨hHeld, (qC), (sH), (uH), (YZ), Ov.out, LW.out, kE.out, mV.out, kF.out, mW.out, l9.out, mX.out, (I4)⟩)
     (rintro lK w44 ⟨hS_, Qm, Qn, Qo, Qp, WA, WB, WC, WE, h8_, h9_, Ox, Oy, Oz⟩); (replace nS : ah (w44.heap[sU]? = some (.cells #[.string aI, .string aN] 48 (0, 0))) := ⟨Qm⟩); (replace oN : ah (w44.heap[sV]? = some (.cells #[.string bf, .string aZ] 48 (0, 0))) := ⟨Qn⟩); (replace qg : ah (w44.heap[xJ]? = some (.cells #[.string ⟨#[]⟩, .string ⟨#[]⟩] 48 (0, 0))) := ⟨Qo⟩); (have vJ : ah (w44.heap[lK]? = some (.cells #[.string ⟨#[]⟩, .string ⟨#[]⟩] 48 (0, 0))) := ⟨Qp⟩); (have Ov : ah (w.heap.size ≤ lK) := ⟨WA⟩); (have LW : ah (w.heap.size ≤ lK) := ⟨WB⟩); (have kE : ah (sU ≠ lK) := ⟨WC⟩); (have mV : ah (lK ≠ sU) := ⟨WE⟩); (have kF : ah (sV ≠ lK) := ⟨h8_⟩); (have mW : ah (lK ≠ sV) := ⟨h9_⟩); (have l9 : ah (xJ ≠ lK) := ⟨Ox⟩); (have mX : ah (lK ≠ xJ) := ⟨Oy⟩); (replace HB : ah (Below w.heap.size w w44) := ⟨Oz⟩); (clear Qm Qn Qo Qp WA WB WC WE h8_ h9_ Ox Oy Oz); (have hHeld := hS_); (refine fC (a' := ?_) ?_ ?_)
     rotate_left
     ·simp only [sS, Act.put, List.setIfInBounds_toArray, List.set_cons_zero, List.set_cons_succ]
      rfl
     (refine kN (i := 12) (N := none) #[true, true, true, true, true, true, true, true, true, true, true, true, true] rfl rfl (gG bI.out (by kernel_rfl)) (by decide) (fun K hK => ?_)); (have aKH : w44.cell? ⟨lK, 0, none⟩ = some (.string ⟨#[]⟩) := (b_ vJ 0)); (have ay7 := dJ vJ.out 0); (have anx := kE.out); (have anz := kF.out); (have anA := l9.out); (have anB := mV.out); (have anC := mW.out); (have anD := mX.out); (have aPD : w44.cell? ⟨lK, 1, none⟩ = some (.string ⟨#[]⟩) := (b_ vJ 1)); (have aNm := dJ vJ.out 1); (have aCO := kE.out); (have aCP := kF.out); (have aCQ := l9.out); (have aCR := mV.out); (have aCS := mW.out); (have aCT := mX.out); (refine t_ (w1 := ?_) (by rfl) rfl ?_ ?_)
     rotate_left
     ·go_simp
      rfl
     (refine hK.out _ _ akk (fun hHeld => ?_)); (clear hK K); (refine lU (jh bI.out (by kernel_rfl)) ?_); (have ay8 := mV.out); (have ay9 := kE.out); (have aNn := mW.out); (have aNo := kF.out); (have arR := mX.out); (have arS := l9.out); (obtain ⟨aCU, aCV, aCW, aCX⟩ := oQ vJ)
     try go_wp2_with (first | ((with_reducible refine aH (f := 98) rfl ?_); refine dD (some 28) rfl rfl Try.func98 (by kernel_rfl) rfl #[.agg #[.string (Ey aI bf), .string zC]] rfl (by (try simp only [List.map_toArray, List.map_cons, List.map_nil]); first | done | rfl) ?_; (with_reducible refine (eH.calls (Ey aI bf) zC false _ A26.out).mono ?_); rintro e w51 ⟨rfl, hb⟩; refine ⟨_, rfl, ?_⟩; replace nS := ah.mk (aA (g := sU) (o := .cells #[.string aI, .string aN] 48 (0, 0)) (akl) hb); replace oN := ah.mk (aA (g := sV) (o := .cells #[.string bf, .string aZ] 48 (0, 0)) (akm) hb); replace qg := ah.mk (aA (g := xJ) (o := .cells #[.string ⟨#[]⟩, .string ⟨#[]⟩] 48 (0, 0)) (akn) hb); replace vJ := ah.mk (aA (g := lK) (o := .cells #[.string (Ey aI bf), .string zC] 48 (0, 0)) (ako) hb); replace HB := ah.mk (ak (I4) hb); (try clear hb); (try clear hb2); (try clear hk); (try clear hi); have aNp := ET.out; have aNq := ES.out; have aNr := KQ.out; have aNs := KP.out; obtain ⟨anE, anF, anG, anH⟩ := oQ qg))
     (refine bodyPost_ret (oZ rfl _ _ xJ 48 #[.string ⟨#[]⟩, .string ⟨#[]⟩] (0, 0) _ rfl (arK) Try.underlying48 rfl (by kernel_rfl)) rfl ?_); (exact ⟨by first | rfl | (simp [*, bg, bn] <;> rfl), I4⟩)

end Go.Proofs.Ytnklnjghecmihaa.L2
