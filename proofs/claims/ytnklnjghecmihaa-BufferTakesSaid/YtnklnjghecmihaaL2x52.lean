/- tight -/ -- written by wip/myprint.py
import Derived.Test.YtnklnjghecmihaaL2x0
import Derived.Test.YtnklnjghecmihaaL2x37
namespace Go.Proofs.Ytnklnjghecmihaa.L2
open Go.RowKit Go.Proofs.YtnklnjghecmihaaW aQ dV fP Mine
attribute [local go_sem] iM iO jk jl gW gX iP iQ iK iL dP dR dQ
set_option linter.unusedVariables false
set_option linter.unusedSimpArgs false
theorem asy {P : Prop} (h : P := by (with_reducible repeat first | exact HB.out | apply mG | apply ni | apply ny) <;> exact HB.out) : P := h
theorem agy {P : Prop} (h : P := by (with_reducible repeat first | exact HB.out | apply mG | apply ni | apply ny | refine jW ?_ aBC.out) <;> exact HB.out) : P := h

/-! ### buffer_For: function 33 -/
def jA.f (k : Nat) (l0 : List (bC)) (bf : ByteArray) (aZ : ByteArray) : Option ((List (bC))) := (bY.f k l0 bf aZ).bind fun ak_ => (some ak_.1)
theorem jA.mono : ∀ a0 a1 a2 k, dO (jA.f k a0 a1 a2) (jA.f (k + 1) a0 a1 a2) := by
 (intro a0 a1 a2 k); (unfold jA.f)
 repeat' (with_reducible first | exact bY.mono _ _ _ _ | exact dO.refl _ | exact dO.none _ | refine dO.ite ?_ ?_ | refine dO.bind ?_ (fun _ => ?_))
set_option maxHeartbeats 8000000 in
set_option maxRecDepth 100000 in
theorem jA.calls (k : Nat) (A0 : Option Addr) (c0 : Nat) (l0 : List (bC)) (bf : ByteArray) (aZ : ByteArray) (r : List (bC)) (w : World) (hr0 : Kd.C k46 w A0 l0.length l0) (hc0 : l0.length ≤ c0) (h : jA.f k l0 bf aZ = some r) :
  Calls Try.prog 33 #[.slice A0 l0.length c0, .agg #[.string bf, .string aZ]] w fun e w' => ∃ zq : Value, e = .returned (zq) ∧ Kd.R k46 46 w' w.heap.size (fun _ => True) zq r ∧ Below w.heap.size w w' := by
 (have H_ := Try.underlying48); (have HR0 := ah.mk hr0); (have QK := ah.mk hc0); (clear hr0 hc0); (have HB := ah.mk (Below.refl w.heap.size w)); (have H : ((bY.f k l0 bf aZ).bind fun ak_ => (some ak_.1)) = some r := h); (clear h); (replace H := Option.bind_eq_some_iff.mp H); (obtain ⟨⟨aBD, aLf⟩, Iz, H⟩ := H); (replace H : (some aBD) = some r := H); (have A3 := ah.mk Iz); (clear Iz); (obtain rfl := Option.some.inj H); (go_enter Try.func33, Try.ntmps33)
 go_wp2_with (first | ((with_reducible refine bM (N := 3) rfl ?_); refine bU ?hg (N := 3) ?hd (cs := #[.string bf, .string aZ]) (t := 48) ?hr ?_; (case hd => rfl); (case hg => rfl); (case hr => first | (go_simp; done) | (go_simp; rfl)); intro aOA hg w4 hbox hb; have ala := ah.mk (hbox); have aBE := ah.mk (hs_ hg (asy)); replace HB := ah.mk (ak (asy) hb); have aBC := aBE; clear hb hbox hg; obtain ⟨aiX, aiY, aiZ, ai0⟩ := oQ ala) | ((with_reducible refine aH (f := 31) rfl ?_); refine dD (some 10) rfl rfl Try.func31 (by kernel_rfl) rfl #[.slice A0 l0.length c0, .agg #[.string bf, .string aZ]] rfl (by (try simp only [List.map_toArray, List.map_cons, List.map_nil]); first | done | rfl) ?_; (with_reducible refine (bY.calls k _ _ l0 bf aZ aBD aLf _ ?fM ?fO A3.out).mono ?_); (case fM => repeat (first | exact (Kd.uN HR0.out HB.out) | (with_reducible refine Kd.nD ?_ _) | (with_reducible refine Kd.nG ?_ _) | (with_reducible refine Kd.qp ?_))); (case fO => exact QK.out); rintro e w6 ⟨aQs, aQt, rfl, ho0, ho1, hb⟩; refine ⟨_, rfl, ?_⟩; have aBF := ah.mk (Kd.gy ho0 (cZ (agy))); have aOB := ah.mk (Kd.gy ho1 (cZ (agy))); replace ala := ah.mk (aA (by (with_reducible repeat first | apply iR | apply iT | apply iJ); exact ala.out) hb); replace HB := ah.mk (ak (agy) hb); (try clear hb); (try clear hb2); (try clear hk); (try clear hi); (try clear ho0); (try clear ho1)))
 (go_ret); (exact ⟨_, by first | rfl | (simp [*, bg, bn] <;> rfl), by (with_reducible repeat (first | apply Kd.dZ | apply Kd.d_ | apply Kd.eU)); exact Kd.dU aBF.out (fun _ hk => trivial), agy⟩)

end Go.Proofs.Ytnklnjghecmihaa.L2
