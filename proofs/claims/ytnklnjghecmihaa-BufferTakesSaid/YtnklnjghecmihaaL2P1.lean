/- tight -/ -- written by wip/myprint.py and wip/pack.py
import Derived.Test.YtnklnjghecmihaaL2x0
import Derived.Test.YtnklnjghecmihaaL2x22
import Derived.Test.YtnklnjghecmihaaL2x42
namespace Go.Proofs.Ytnklnjghecmihaa.L2
open Go.RowKit Go.Proofs.YtnklnjghecmihaaW aQ dV fP Mine
attribute [local go_sem] iM iO jk jl gW gX iP iQ iK iL dP dR dQ
set_option linter.unusedVariables false
set_option linter.unusedSimpArgs false
theorem arA {P : Prop} (h : P := by repeat (first | (with_reducible first | exact HK.out | apply Kept.alloc | apply Kept.drewN | apply Kept.drew) | exact HK.out)) : P := h
/-! ### api_Msg_90: function 90 -/
def lW.f (k : Nat) (l0 : List (bC))  : Option ((List (bC))) := (bZ.f k l0 (l0.length : Int)).bind fun t183 => (some t183)
theorem lW.mono : ∀ a0 k, dO (lW.f k a0) (lW.f (k + 1) a0) := by
 (intro a0 k); (unfold lW.f)
 repeat' (with_reducible first | exact bZ.mono _ _ _ | exact dO.refl _ | exact dO.none _ | refine dO.ite ?_ ?_ | refine dO.bind ?_ (fun _ => ?_))
set_option maxHeartbeats 8000000 in
set_option maxRecDepth 100000 in
theorem lW.calls (k : Nat) (nI : Nat → Prop) (jq : Value) (l0 : List (bC))  (r : List (bC)) (w0 w : World) (hB : Below w0.heap.size w0 w) (ho0 : Kd.R k46 46 w w0.heap.size nI jq l0) (h : lW.f k l0 = some r) :
  Calls Try.prog 90 #[jq, .func (.func 91) #[] #[]] w fun e w' => e = .returned (.tuple #[]) ∧ Kd.R k46 46 w' w0.heap.size (fun k_ => (nI k_ ∨ w.heap.size ≤ k_)) jq r ∧ Below w0.heap.size w0 w' ∧ Kept w w' (fun k_ => nI k_) := by
 (have Rz := ah.mk (show Kd.R k46 46 w w0.heap.size (fun k_ => (nI k_ ∨ w.heap.size ≤ k_)) jq l0 from Kd.dU ho0 (fun k_ hk => (.inl hk)))); (have HK := ah.mk (Kept.refl w (fun k_ => nI k_))); (have HW0 := ah.mk hB.size); (have HB := ah.mk hB); (clear hB); (have H : ((bZ.f k l0 (l0.length : Int)).bind fun t183 => (some t183)) = some r := h); (clear h); (replace H := Option.bind_eq_some_iff.mp H); (obtain ⟨t183, Iz, H⟩ := H); (replace H : (some t183) = some r := H); (have A3 := ah.mk Iz); (clear Iz); (obtain rfl := Option.some.inj H); (obtain ⟨Ao4, co4, eo4⟩ := Kd.fJ Rz.out); (subst eo4); (go_enter Try.func90, Try.ntmps90)
 go_wp2_with (first | ((with_reducible refine aH (f := 130) rfl ?_); refine dD (some 8) rfl rfl Try.func130 (by kernel_rfl) rfl #[.slice Ao4 l0.length co4, .int .i64 (l0.length : Int), .func (.func 91) #[] #[]] rfl (by (try simp only [List.map_toArray, List.map_cons, List.map_nil]); first | done | rfl) ?_; (with_reducible refine (bZ.calls k (fun k_ => some k_ = (.slice Ao4 l0.length co4 : Value).ownBlock) (.slice Ao4 l0.length co4) l0 (l0.length : Int)  t183 w0 _ ?fM ?fO A3.out).mono ?_); (case fM => repeat (first | (with_reducible first | exact HB.out | apply mG | apply ni | apply ny) | exact HB.out)); (case fO => exact Kd.jY rfl Rz.out); rintro e w5 ⟨rfl, hy0, hb, hkp⟩; refine ⟨_, rfl, ?_⟩; replace HK := ah.mk (Kept.then_ (S := (fun k_ => nI k_)) (arA) hkp (fun k_ hs_ => (fun e_ => (Rz.out.1 k_ e_.symm)) hs_)); replace Rz := ah.mk (Kd.zl rfl hy0 (fun k_ e_ => Rz.out.1 k_ e_)); replace HB := ah.mk (hb); (try clear hb); (try clear hkp); (try clear hy0)))
 (first | go_end0 | ((try simp only [Exit.inBlock, Exit.then]); refine bodyPost_ret (results_none rfl _ _ _) rfl ?_)); (exact ⟨by first | rfl | (simp [*, bg, bn] <;> rfl), by (with_reducible repeat (first | apply Kd.dZ | apply Kd.d_ | apply Kd.eU)); exact Rz.out, by (with_reducible repeat first | exact HB.out | apply mG | apply ni | apply ny) <;> exact HB.out, arA⟩)
theorem akd {P : Prop} (h : P := by (with_reducible repeat first | exact HB.out | apply mG | apply ni | apply ny) <;> exact HB.out) : P := h
/-! ### buffer_Newest: function 58 -/
def iW.f (k : Nat) (l0 : List (bC)) : Option (Int) := if (l0.length : Int) = 0 then (some 0) else ((fD.f k l0).bind fun ake => (some ake.2.1))
theorem iW.mono : ∀ a0 k, dO (iW.f k a0) (iW.f (k + 1) a0) := by
 (intro a0 k); (unfold iW.f)
 repeat' (with_reducible first | exact fD.mono _ _ | exact dO.refl _ | exact dO.none _ | refine dO.ite ?_ ?_ | refine dO.bind ?_ (fun _ => ?_))
theorem iW.field (x0 x1 x2 x3 x4 x5 : Value) (w : World) : Sem.run Try.prog (Instr.field 46 (.agg #[x0, x1, x2, x3, x4, x5]) 1) w = .ok x1 w := by kernel_rfl
attribute [local go_sem] iW.field
set_option maxHeartbeats 8000000 in
set_option maxRecDepth 100000 in
theorem iW.calls (k : Nat) (A0 : Option Addr) (c0 : Nat) (l0 : List (bC)) (r : Int) (w : World) (hr0 : Kd.C k46 w A0 l0.length l0) (hc0 : l0.length ≤ c0) (h : iW.f k l0 = some r) :
  Calls Try.prog 58 #[.slice A0 l0.length c0] w fun e w' => e = .returned (.int .i64 r) ∧ Below w.heap.size w w' := by
 (have HR0 := ah.mk hr0); (have QK := ah.mk hc0); (clear hr0 hc0); (have HB := ah.mk (Below.refl w.heap.size w)); (have H : (if (l0.length : Int) = 0 then (some 0) else ((fD.f k l0).bind fun ake => (some ake.2.1))) = some r := h); (clear h); (by_cases c2 : (l0.length : Int) = 0)
 ·rw [if_pos c2] at H
  (have zo : ((l0.length : Int) == 0) = true := beq_iff_eq.mpr c2); (have XD : ((l0.length : Int) != 0) = false := bne_eq_false_iff_eq.mpr c2); (clear c2); (obtain rfl := Option.some.inj H); (go_enter Try.func58, Try.ntmps58); (go_wp2); (go_ret); (exact ⟨by first | rfl | (simp [*, bg, bn] <;> rfl), akd⟩)
 ·rw [if_neg c2] at H
  (have zo : ((l0.length : Int) == 0) = false := beq_eq_false_iff_ne.mpr c2); (have XD : ((l0.length : Int) != 0) = true := bne_iff_ne.mpr c2); (have aJM : ¬ (l0 = []) := fun h_ => c2 (by rw [h_]; rfl)); (replace H := Option.bind_eq_some_iff.mp H); (obtain ⟨⟨aKC, ayW, aKD, aKE, aKF, aKG⟩, Iz, H⟩ := H); (replace H : (some ayW) = some r := H); (have A3 := ah.mk Iz); (clear Iz); (obtain rfl := Option.some.inj H); (go_enter Try.func58, Try.ntmps58)
  (go_wp2_with (first | ((with_reducible refine aH (f := 114) rfl ?_); refine dD (some 7) rfl rfl Try.func114 (by kernel_rfl) rfl #[.slice A0 l0.length c0, .func (.func 91) #[] #[]] rfl (by (try simp only [List.map_toArray, List.map_cons, List.map_nil]); first | done | rfl) ?_; (with_reducible refine (fD.calls k _ _ l0  aKC ayW aKD aKE aKF aKG _ ?fM ?fO A3.out).mono ?_); (case fM => repeat (first | exact HR0.out | (with_reducible refine Kd.nD ?_ _) | (with_reducible refine Kd.nG ?_ _) | (with_reducible refine Kd.qp ?_))); (case fO => exact QK.out); rintro e w4 ⟨rfl, hb⟩; refine ⟨_, rfl, ?_⟩; replace HB := ah.mk (ak (akd) hb); (try clear hb); (try clear hb2); (try clear hk); (try clear hi)))); (go_ret); (exact ⟨by first | rfl | (simp [*, bg, bn] <;> rfl), akd⟩)
end Go.Proofs.Ytnklnjghecmihaa.L2

