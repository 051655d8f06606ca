/- tight -/ -- written by wip/myprint.py and wip/pack.py
import Derived.Test.YtpfikmchimlneaaM2x0
import Derived.Test.YtpfikmchimlneaaM2x15
import Derived.Test.YtpfikmchimlneaaM2P0
import Derived.Test.YtpfikmchimlneaaM2x37
import Derived.Test.YtpfikmchimlneaaM2x6
-- written by a program of this session (wip/myprint.py), over the kit's printer and the session's own contracts
namespace Go.Proofs.Ytpfikmchimlneaa.M2
open Go.RowKit Go.Proofs.YtpfikmchimlneaaW.PrintWords Go.Proofs.YtpfikmchimlneaaW.PrintLast Go.Proofs.YtpfikmchimlneaaW.PrintMore Go.Proofs.YtpfikmchimlneaaW.Mine
attribute [local go_sem] max2_int min2_int max_two min_two max_three min_three max_four min_four max2_str min2_str binOp_gtr_str binOp_leq_str binOp_geq_str   -- for this text's walks alone
set_option linter.unusedVariables false
set_option linter.unusedSimpArgs false
/-! ### block_Place: function 84 -/
def block_Place.f (k : Nat) (l0 : List (S85)) (a1 : ByteArray) : Option (Int × Bool) := (api_Entry_string_112.f k l0 a1).bind fun bt138 => (some (bt138.1, bt138.2))
theorem block_Place.mono : ∀ a0 a1 k, LeO (block_Place.f k a0 a1) (block_Place.f (k + 1) a0 a1) := by
  (intro a0 a1 k); (unfold block_Place.f)
  repeat' first
      | (with_reducible exact api_Entry_string_112.mono _ _ _)
      | (with_reducible exact LeO.refl _)
      | (with_reducible exact LeO.none _)
      | (with_reducible refine LeO.ite ?_ ?_)
      | (with_reducible refine LeO.bind ?_ (fun _ => ?_))
      | exact api_Entry_string_112.mono _ _ _
      | exact LeO.none _
      | refine LeO.ite ?_ ?_
      | refine LeO.bind ?_ (fun _ => ?_)
set_option maxHeartbeats 8000000 in
set_option maxRecDepth 100000 in
theorem block_Place.calls (k : Nat) (A0 : Option Addr) (c0 : Nat) (l0 : List (S85)) (a1 : ByteArray) (r1 : Int) (r2 : Bool) (w : World) (hr0 : Kd.C k85 w A0 l0.length l0) (hc0 : l0.length ≤ c0) (h : block_Place.f k l0 a1 = some (r1, r2)) :
    Calls Try.prog 84 #[.slice A0 l0.length c0, .string a1] w fun e w' => e = .returned (.tuple #[.int .i64 r1, .bool r2]) ∧ Below w.heap.size w w' := by
  (have HR0 := Aside0.mk hr0); (have HC0 := Aside0.mk hc0); (clear hr0 hc0); (have HB := Aside0.mk (Below.refl w.heap.size w)); (have H : ((api_Entry_string_112.f k l0 a1).bind fun bt138 => (some (bt138.1, bt138.2))) = some (r1, r2) := h); (clear h); (replace H := Option.bind_eq_some_iff.mp H); (obtain ⟨⟨t138, t139⟩, A30, H⟩ := H); (replace H : (some (t138, t139)) = some (r1, r2) := H); (have A3 := Aside0.mk A30); (clear A30); (simp only [Option.some.injEq, Prod.mk.injEq] at H); (obtain ⟨rfl, rfl⟩ := H); (go_enter Try.func84, Try.ntmps84)
  (go_wp2_with (first | ((with_reducible refine gate_callee (f := 112) rfl ?_); refine goesL_ (some 8) rfl rfl Try.func112 (by kernel_rfl) rfl #[.slice A0 l0.length c0, .string a1, .func (.func 113) #[] #[]] rfl (by (try simp only [List.map_toArray, List.map_cons, List.map_nil]); first | done | rfl | (simp only [List.length_drop, List.length_take]; rfl)) ?_; (with_reducible refine (api_Entry_string_112.calls k _ _ l0 a1  t138 t139 _ ?side1 ?side2 A3.out).mono ?_); (case side1 => repeat (first | exact HR0.out | (with_reducible refine Kd.C_alloc ?_ _) | (with_reducible refine Kd.C_drewN ?_ _) | (with_reducible refine Kd.C_drew ?_))); (case side2 => exact HC0.out); rintro e w4 ⟨rfl, hb⟩; refine ⟨_, rfl, ?_⟩; have n0_ := Aside0.mk (below_step (by repeat (first | (with_reducible first | exact HB.out | apply y1_ | apply y2_ | apply y3_) | exact HB.out)) hb); clear HB; have HB := n0_; clear n0_; (try clear hb); (try clear hb2); (try clear hk); (try clear hi)))); (go_ret2); (exact ⟨by first | rfl | (simp [errW_none, errW_some] <;> rfl) | (simp [*, errW_none, errW_some] <;> rfl), by repeat (first | (with_reducible first | exact HB.out | apply y1_ | apply y2_ | apply y3_) | exact HB.out)⟩)
end Go.Proofs.Ytpfikmchimlneaa.M2
-- written by a program of this session (wip/myprint.py), over the kit's printer and the session's own contracts
namespace Go.Proofs.Ytpfikmchimlneaa.M2
open Go.RowKit Go.Proofs.YtpfikmchimlneaaW.PrintWords Go.Proofs.YtpfikmchimlneaaW.PrintLast Go.Proofs.YtpfikmchimlneaaW.PrintMore Go.Proofs.YtpfikmchimlneaaW.Mine
attribute [local go_sem] max2_int min2_int max_two min_two max_three min_three max_four min_four max2_str min2_str binOp_gtr_str binOp_leq_str binOp_geq_str   -- for this text's walks alone
set_option linter.unusedVariables false
set_option linter.unusedSimpArgs false
/-! ### block_Drop: function 102 -/
def block_Drop.f (k : Nat) (l0 : List (S85)) (a1 : ByteArray) : Option ((List (S85))) := (block_Place.f k l0 a1).bind fun bt167 => (if bt167.2 = true then ((block_without.f l0 bt167.1 (wrap64 (bt167.1 + 1))).bind fun t172 => (some t172)) else ((api_Entry_86.f l0).bind fun t169 => (some t169)))
theorem block_Drop.mono : ∀ a0 a1 k, LeO (block_Drop.f k a0 a1) (block_Drop.f (k + 1) a0 a1) := by
  (intro a0 a1 k); (unfold block_Drop.f)
  repeat' first
      | (with_reducible exact block_Place.mono _ _ _)
      | (with_reducible exact LeO.refl _)
      | (with_reducible exact LeO.none _)
      | (with_reducible refine LeO.ite ?_ ?_)
      | (with_reducible refine LeO.bind ?_ (fun _ => ?_))
      | exact block_Place.mono _ _ _
      | exact LeO.none _
      | refine LeO.ite ?_ ?_
      | refine LeO.bind ?_ (fun _ => ?_)
set_option maxHeartbeats 8000000 in
set_option maxRecDepth 100000 in
theorem block_Drop.calls (k : Nat) (A0 : Option Addr) (c0 : Nat) (l0 : List (S85)) (a1 : ByteArray) (r : List (S85)) (w : World) (hr0 : Kd.C k85 w A0 l0.length l0) (hc0 : l0.length ≤ c0) (h : block_Drop.f k l0 a1 = some r) :
    Calls Try.prog 102 #[.slice A0 l0.length c0, .string a1] w fun e w' => ∃ v0_ : Value, e = .returned (v0_) ∧ Kd.R k85 85 w' w.heap.size (fun _ => True) v0_ r ∧ Below w.heap.size w w' := by
  (have HR0 := Aside0.mk hr0); (have HC0 := Aside0.mk hc0); (clear hr0 hc0); (have HB := Aside0.mk (Below.refl w.heap.size w)); (have H : ((block_Place.f k l0 a1).bind fun bt167 => (if bt167.2 = true then ((block_without.f l0 bt167.1 (wrap64 (bt167.1 + 1))).bind fun t172 => (some t172)) else ((api_Entry_86.f l0).bind fun t169 => (some t169)))) = some r := h); (clear h); (replace H := Option.bind_eq_some_iff.mp H); (obtain ⟨⟨t167, t168⟩, A30, H⟩ := H); (replace H : (if t168 = true then ((block_without.f l0 t167 (wrap64 (t167 + 1))).bind fun t172 => (some t172)) else ((api_Entry_86.f l0).bind fun t169 => (some t169))) = some r := H); (have A3 := Aside0.mk A30); (clear A30); (by_cases c4 : t168 = true)
  · subst c4
    (have H1 : ((block_without.f l0 t167 (wrap64 (t167 + 1))).bind fun t172 => (some t172)) = some r := by rw [if_pos rfl] at H; exact H); (clear H); (have H := H1); (clear H1); (replace H := Option.bind_eq_some_iff.mp H); (obtain ⟨t172, A50, H⟩ := H); (replace H : (some t172) = some r := H); (have A5 := Aside0.mk A50); (clear A50); (obtain rfl := Option.some.inj H); (go_enter Try.func102, Try.ntmps102)
    go_wp2_with (first | ((with_reducible refine gate_callee (f := 84) rfl ?_); refine goesL_ (some 10) rfl rfl Try.func84 (by kernel_rfl) rfl #[.slice A0 l0.length c0, .string a1] rfl (by (try simp only [List.map_toArray, List.map_cons, List.map_nil]); first | done | rfl | (simp only [List.length_drop, List.length_take]; rfl)) ?_; (with_reducible refine (block_Place.calls k _ _ l0 a1 t167 true _ ?side1 ?side2 A3.out).mono ?_); (case side1 => repeat (first | exact HR0.out | (with_reducible refine Kd.C_alloc ?_ _) | (with_reducible refine Kd.C_drewN ?_ _) | (with_reducible refine Kd.C_drew ?_))); (case side2 => exact HC0.out); rintro e w6 ⟨rfl, hb⟩; refine ⟨_, rfl, ?_⟩; have n0_ := Aside0.mk (below_step (by repeat (first | (with_reducible first | exact HB.out | apply y1_ | apply y2_ | apply y3_) | exact HB.out)) hb); clear HB; have HB := n0_; clear n0_; (try clear hb); (try clear hb2); (try clear hk); (try clear hi)) | ((with_reducible refine gate_callee (f := 121) rfl ?_); refine goesL_ (some 21) rfl rfl Try.func121 (by kernel_rfl) rfl #[.slice A0 l0.length c0, .int .i64 t167, .int .i64 (wrap64 (t167 + 1))] rfl (by (try simp only [List.map_toArray, List.map_cons, List.map_nil]); first | done | rfl | (simp only [List.length_drop, List.length_take]; rfl)) ?_; (with_reducible refine (block_without.calls _ _ l0 t167 (wrap64 (t167 + 1)) t172 _ ?side1 ?side2 A5.out).mono ?_); (case side1 => repeat (first | exact (Kd.C_below HR0.out HB.out) | (with_reducible refine Kd.C_alloc ?_ _) | (with_reducible refine Kd.C_drewN ?_ _) | (with_reducible refine Kd.C_drew ?_))); (case side2 => exact HC0.out); rintro e w7 ⟨v173, rfl, ho0, hb⟩; refine ⟨_, rfl, ?_⟩; have n0_ := Aside0.mk (Kd.R_lower ho0 (below_size (by repeat (first | (with_reducible first | exact HB.out | apply y1_ | apply y2_ | apply y3_) | exact HB.out)))); have n1_ := Aside0.mk (below_step (by repeat (first | (with_reducible first | exact HB.out | apply y1_ | apply y2_ | apply y3_) | exact HB.out)) hb); clear HB; have HO174 := n0_; have HB := n1_; clear n0_ n1_; (try clear hb); (try clear hb2); (try clear hk); (try clear hi); (try clear ho0)))
    (go_ret); (exact ⟨_, by first | rfl | (simp [errW_none, errW_some] <;> rfl) | (simp [*, errW_none, errW_some] <;> rfl), by (with_reducible repeat (first | apply Kd.R_alloc | apply Kd.R_drewN | apply Kd.R_drew)); exact HO174.out, by repeat (first | (with_reducible first | exact HB.out | apply y1_ | apply y2_ | apply y3_) | exact HB.out)⟩)
  · replace c4 := Bool.eq_false_iff.mpr c4
    (subst c4); (have H1 : ((api_Entry_86.f l0).bind fun t169 => (some t169)) = some r := by rw [if_neg (show ¬ (false = true) by decide)] at H; exact H); (clear H); (have H := H1); (clear H1); (replace H := Option.bind_eq_some_iff.mp H); (obtain ⟨t169, A80, H⟩ := H); (replace H : (some t169) = some r := H); (have A8 := Aside0.mk A80); (clear A80); (obtain rfl := Option.some.inj H); (go_enter Try.func102, Try.ntmps102)
    go_wp2_with (first | ((with_reducible refine gate_callee (f := 84) rfl ?_); refine goesL_ (some 10) rfl rfl Try.func84 (by kernel_rfl) rfl #[.slice A0 l0.length c0, .string a1] rfl (by (try simp only [List.map_toArray, List.map_cons, List.map_nil]); first | done | rfl | (simp only [List.length_drop, List.length_take]; rfl)) ?_; (with_reducible refine (block_Place.calls k _ _ l0 a1 t167 false _ ?side1 ?side2 A3.out).mono ?_); (case side1 => repeat (first | exact HR0.out | (with_reducible refine Kd.C_alloc ?_ _) | (with_reducible refine Kd.C_drewN ?_ _) | (with_reducible refine Kd.C_drew ?_))); (case side2 => exact HC0.out); rintro e w9 ⟨rfl, hb⟩; refine ⟨_, rfl, ?_⟩; have n0_ := Aside0.mk (below_step (by repeat (first | (with_reducible first | exact HB.out | apply y1_ | apply y2_ | apply y3_) | exact HB.out)) hb); clear HB; have HB := n0_; clear n0_; (try clear hb); (try clear hb2); (try clear hk); (try clear hi)) | ((with_reducible refine gate_callee (f := 86) rfl ?_); refine goesL_ (some 16) rfl rfl Try.func86 (by kernel_rfl) rfl #[.slice A0 l0.length c0] rfl (by (try simp only [List.map_toArray, List.map_cons, List.map_nil]); first | done | rfl | (simp only [List.length_drop, List.length_take]; rfl)) ?_; (with_reducible refine (api_Entry_86.calls _ _ l0 t169 _ ?side1 ?side2 A8.out).mono ?_); (case side1 => repeat (first | exact (Kd.C_below HR0.out HB.out) | (with_reducible refine Kd.C_alloc ?_ _) | (with_reducible refine Kd.C_drewN ?_ _) | (with_reducible refine Kd.C_drew ?_))); (case side2 => exact HC0.out); rintro e w10 ⟨v170, rfl, ho0, hb⟩; refine ⟨_, rfl, ?_⟩; have n0_ := Aside0.mk (Kd.R_lower ho0 (below_size (by repeat (first | (with_reducible first | exact HB.out | apply y1_ | apply y2_ | apply y3_) | exact HB.out)))); have n1_ := Aside0.mk (below_step (by repeat (first | (with_reducible first | exact HB.out | apply y1_ | apply y2_ | apply y3_) | exact HB.out)) hb); clear HB; have HO171 := n0_; have HB := n1_; clear n0_ n1_; (try clear hb); (try clear hb2); (try clear hk); (try clear hi); (try clear ho0)))
    (go_ret); (exact ⟨_, by first | rfl | (simp [errW_none, errW_some] <;> rfl) | (simp [*, errW_none, errW_some] <;> rfl), by (with_reducible repeat (first | apply Kd.R_alloc | apply Kd.R_drewN | apply Kd.R_drew)); exact HO171.out, by repeat (first | (with_reducible first | exact HB.out | apply y1_ | apply y2_ | apply y3_) | exact HB.out)⟩)
end Go.Proofs.Ytpfikmchimlneaa.M2
-- written by a program of this session (wip/myprint.py), over the kit's printer and the session's own contracts
namespace Go.Proofs.Ytpfikmchimlneaa.M2
open Go.RowKit Go.Proofs.YtpfikmchimlneaaW.PrintWords Go.Proofs.YtpfikmchimlneaaW.PrintLast Go.Proofs.YtpfikmchimlneaaW.PrintMore Go.Proofs.YtpfikmchimlneaaW.Mine
attribute [local go_sem] max2_int min2_int max_two min_two max_three min_three max_four min_four max2_str min2_str binOp_gtr_str binOp_leq_str binOp_geq_str   -- for this text's walks alone
set_option linter.unusedVariables false
set_option linter.unusedSimpArgs false
/-! ### leaf_of: function 83 -/
def leaf_of.f (k : Nat) (l0 : List (List (S85))) (a1 : ByteArray) : Option (Int) := (api_Entry_string_109.f k l0 a1).bind fun bt210 => (if bt210.2 = true then (some bt210.1) else (some (mx (wrap64 (bt210.1 - 1)) 0)))
theorem leaf_of.mono : ∀ a0 a1 k, LeO (leaf_of.f k a0 a1) (leaf_of.f (k + 1) a0 a1) := by
  (intro a0 a1 k); (unfold leaf_of.f)
  repeat' first
      | (with_reducible exact api_Entry_string_109.mono _ _ _)
      | (with_reducible exact LeO.refl _)
      | (with_reducible exact LeO.none _)
      | (with_reducible refine LeO.ite ?_ ?_)
      | (with_reducible refine LeO.bind ?_ (fun _ => ?_))
      | exact api_Entry_string_109.mono _ _ _
      | exact LeO.none _
      | refine LeO.ite ?_ ?_
      | refine LeO.bind ?_ (fun _ => ?_)
set_option maxHeartbeats 8000000 in
set_option maxRecDepth 100000 in
theorem leaf_of.calls (k : Nat) (A0 : Option Addr) (c0 : Nat) (l0 : List (List (S85))) (a1 : ByteArray) (r : Int) (w : World) (hr0 : Kd.C (Kd.slice 85 k85) w A0 l0.length l0) (hc0 : l0.length ≤ c0) (h : leaf_of.f k l0 a1 = some r) :
    Calls Try.prog 83 #[.slice A0 l0.length c0, .string a1] w fun e w' => e = .returned (.int .i64 r) ∧ Below w.heap.size w w' := by
  (have HR0 := Aside0.mk hr0); (have HC0 := Aside0.mk hc0); (clear hr0 hc0); (have HB := Aside0.mk (Below.refl w.heap.size w)); (have H : ((api_Entry_string_109.f k l0 a1).bind fun bt210 => (if bt210.2 = true then (some bt210.1) else (some (mx (wrap64 (bt210.1 - 1)) 0)))) = some r := h); (clear h); (replace H := Option.bind_eq_some_iff.mp H); (obtain ⟨⟨t210, t211⟩, A30, H⟩ := H); (replace H : (if t211 = true then (some t210) else (some (mx (wrap64 (t210 - 1)) 0))) = some r := H); (have A3 := Aside0.mk A30); (clear A30); (by_cases c4 : t211 = true)
  · subst c4
    (have H1 : (some t210) = some r := by rw [if_pos rfl] at H; exact H); (clear H); (have H := H1); (clear H1); (obtain rfl := Option.some.inj H); (go_enter Try.func83, Try.ntmps83); (go_wp2_with (first | ((with_reducible refine gate_callee (f := 109) rfl ?_); refine goesL_ (some 10) rfl rfl Try.func109 (by kernel_rfl) rfl #[.slice A0 l0.length c0, .string a1, .func (.func 110) #[] #[]] rfl (by (try simp only [List.map_toArray, List.map_cons, List.map_nil]); first | done | rfl | (simp only [List.length_drop, List.length_take]; rfl)) ?_; (with_reducible refine (api_Entry_string_109.calls k _ _ l0 a1  t210 true _ ?side1 ?side2 A3.out).mono ?_); (case side1 => repeat (first | exact HR0.out | (with_reducible refine Kd.C_alloc ?_ _) | (with_reducible refine Kd.C_drewN ?_ _) | (with_reducible refine Kd.C_drew ?_))); (case side2 => exact HC0.out); rintro e w' ⟨rfl, ⟨nd, rfl⟩⟩; refine ⟨_, rfl, ?_⟩))); (go_ret); (exact ⟨by first | rfl | (simp [errW_none, errW_some] <;> rfl) | (simp [*, errW_none, errW_some] <;> rfl), by repeat (first | (with_reducible first | exact HB.out | apply y1_ | apply y2_ | apply y3_) | exact HB.out)⟩)
  · replace c4 := Bool.eq_false_iff.mpr c4
    (subst c4); (have H1 : (some (mx (wrap64 (t210 - 1)) 0)) = some r := by rw [if_neg (show ¬ (false = true) by decide)] at H; exact H); (clear H); (have H := H1); (clear H1); (obtain ⟨ji5, hji5⟩ : ∃ j_ : Int, (mx (wrap64 (t210 - 1)) 0) = j_ := ⟨_, rfl⟩); (replace H : (some ji5) = some r := by first | (rw [hji5] at H; exact H) | (simp only [hji5] at H ⊢; exact H)); ((try rw [hji5] at A3)); ((try (have hji5l : 0 ≤ ji5 := by (rw [← hji5]; unfold mx; (repeat' split) <;> omega)))); ((try (have hji5m : 0 ≤ ji5 := by omega))); (have hji5_ : (if (wrap64 (t210 - 1)) < 0 then 0 else (wrap64 (t210 - 1))) = ji5 := hji5); (obtain rfl := Option.some.inj H); (go_enter Try.func83, Try.ntmps83)
    (go_wp2_with (first | ((with_reducible refine gate_callee (f := 109) rfl ?_); refine goesL_ (some 10) rfl rfl Try.func109 (by kernel_rfl) rfl #[.slice A0 l0.length c0, .string a1, .func (.func 110) #[] #[]] rfl (by (try simp only [List.map_toArray, List.map_cons, List.map_nil]); first | done | rfl | (simp only [List.length_drop, List.length_take]; rfl)) ?_; (with_reducible refine (api_Entry_string_109.calls k _ _ l0 a1  t210 false _ ?side1 ?side2 A3.out).mono ?_); (case side1 => repeat (first | exact HR0.out | (with_reducible refine Kd.C_alloc ?_ _) | (with_reducible refine Kd.C_drewN ?_ _) | (with_reducible refine Kd.C_drew ?_))); (case side2 => exact HC0.out); rintro e w' ⟨rfl, ⟨nd, rfl⟩⟩; refine ⟨_, rfl, ?_⟩))); (go_ret); (exact ⟨by first | rfl | (simp [errW_none, errW_some] <;> rfl) | (simp only [← hji5]; first | rfl | (simp [errW_none, errW_some] <;> rfl)) | (simp [*, errW_none, errW_some] <;> rfl), by repeat (first | (with_reducible first | exact HB.out | apply y1_ | apply y2_ | apply y3_) | exact HB.out)⟩)
end Go.Proofs.Ytpfikmchimlneaa.M2
-- written by a program of this session (wip/myprint.py), over the kit's printer and the session's own contracts
namespace Go.Proofs.Ytpfikmchimlneaa.M2
open Go.RowKit Go.Proofs.YtpfikmchimlneaaW.PrintWords Go.Proofs.YtpfikmchimlneaaW.PrintLast Go.Proofs.YtpfikmchimlneaaW.PrintMore Go.Proofs.YtpfikmchimlneaaW.Mine
attribute [local go_sem] max2_int min2_int max_two min_two max_three min_three max_four min_four max2_str min2_str binOp_gtr_str binOp_leq_str binOp_geq_str   -- for this text's walks alone
set_option linter.unusedVariables false
set_option linter.unusedSimpArgs false
/-! ### catchmentref11_Right: function 36 -/
def catchmentref11_Right.l0 : Nat → List (List (S85)) → Int → Int → Option (Bool)
  | 0, _, _, _ => none
  | k + 1, x0, x1, x5 => if x5 < (x0.length : Int) then (if 0 ≤ x5 then (if ((rd_L2 x0 x5).length : Int) > x1 then (some false) else (catchmentref11_Right.l0 k x0 x1 (wrap64 (x5 + 1)))) else (none)) else ((catchmentref11_Row.f k x0).bind fun t498 => (some t498))
def catchmentref11_Right.f (k : Nat) (l0 : List (List (S85))) (a1 : Int) : Option (Bool) := catchmentref11_Right.l0 k l0 a1 0
theorem catchmentref11_Right.mono_l : ∀ k, (∀ y0 y1 y2, LeO (catchmentref11_Right.l0 k y0 y1 y2) (catchmentref11_Right.l0 (k + 1) y0 y1 y2))
  | 0 => fun _ _ _ r h => by simp [catchmentref11_Right.l0] at h
  | k + 1 => by
    have ih0 := catchmentref11_Right.mono_l k
    · intro y0 y1 y2
      unfold catchmentref11_Right.l0
      repeat' first
      | (with_reducible exact ih0 _ _ _)
      | (with_reducible exact catchmentref11_Row.mono _ _)
      | (with_reducible exact LeO.refl _)
      | (with_reducible exact LeO.none _)
      | (with_reducible refine LeO.ite ?_ ?_)
      | (with_reducible refine LeO.bind ?_ (fun _ => ?_))
      | exact ih0 _ _ _
      | exact catchmentref11_Row.mono _ _
      | exact LeO.none _
      | refine LeO.ite ?_ ?_
      | refine LeO.bind ?_ (fun _ => ?_)
theorem catchmentref11_Right.mono : ∀ a0 a1 k, LeO (catchmentref11_Right.f k a0 a1) (catchmentref11_Right.f (k + 1) a0 a1) := by
  (intro a0 a1 k); (have ih0 := catchmentref11_Right.mono_l k); (unfold catchmentref11_Right.f)
  repeat' first
      | (with_reducible exact ih0 _ _ _)
      | (with_reducible exact catchmentref11_Row.mono _ _)
      | (with_reducible exact LeO.refl _)
      | (with_reducible exact LeO.none _)
      | (with_reducible refine LeO.ite ?_ ?_)
      | (with_reducible refine LeO.bind ?_ (fun _ => ?_))
      | exact ih0 _ _ _
      | exact catchmentref11_Row.mono _ _
      | exact LeO.none _
      | refine LeO.ite ?_ ?_
      | refine LeO.bind ?_ (fun _ => ?_)
set_option maxHeartbeats 8000000 in
set_option maxRecDepth 100000 in
theorem catchmentref11_Right.calls (k : Nat) (A0 : Option Addr) (c0 : Nat) (l0 : List (List (S85))) (a1 : Int) (r : Bool) (w : World) (hr0 : Kd.C (Kd.slice 85 k85) w A0 l0.length l0) (hc0 : l0.length ≤ c0) (h : catchmentref11_Right.f k l0 a1 = some r) :
    Calls Try.prog 36 #[.slice A0 l0.length c0, .int .i64 a1] w fun e w' => e = .returned (.bool r) ∧ Below w.heap.size w w' := by
  (have HR0 := Aside0.mk hr0); (have HC0 := Aside0.mk hc0); (clear hr0 hc0); (have HB := Aside0.mk (Below.refl w.heap.size w)); (have H : (catchmentref11_Right.l0 k l0 a1 0) = some r := h); (clear h); (have H' := Aside0.mk H); (clear H); (go_enter Try.func36, Try.ntmps36); (go_wp2); (go_loopg [5] k (fun kq v5 w' => ∃ (x5_1 : Int), v5 = .int .i64 x5_1 ∧ Aside0 (catchmentref11_Right.l0 kq l0 a1 x5_1 = some r) ∧ Aside0 (kq ≤ k) ∧ Aside0 (Below w.heap.size w w')))
  case atStart => exact ⟨(0), (by first | rfl | (simp; done) | (simp [*]; done)), H', ⟨Nat.le_refl _⟩, ⟨by repeat (first | (with_reducible first | exact HB.out | apply y1_ | apply y2_ | apply y3_) | exact HB.out)⟩⟩
  case round =>
    (clear H'); (try clear p2); (obtain ⟨x5_1, rfl, HA, HK1, HB⟩ := hrel)
    cases gk with
    | zero => exact absurd HA.out (by simp [catchmentref11_Right.l0])
    | succ k1 =>
      (have H := HA.out); (clear HA); (simp only [catchmentref11_Right.l0] at H); (by_cases c3 : x5_1 < (l0.length : Int))
      · rw [if_pos c3] at H
        (have c3b0 : decide (x5_1 < (l0.length : Int)) = true := decide_eq_true c3); (clear c3); (by_cases c4 : 0 ≤ x5_1)
        · rw [if_pos c4] at H
          (have c4b0 : decide (0 ≤ x5_1) = true := decide_eq_true c4); (clear c4); (by_cases c5 : ((rd_L2 l0 x5_1).length : Int) > a1)
          · rw [if_pos c5] at H
            (have c5b0 : decide (a1 < ((rd_L2 l0 x5_1).length : Int)) = true := decide_eq_true c5); (clear c5); (obtain rfl := Option.some.inj H); (have p497 : 0 ≤ (x5_1 : Int) := of_decide_eq_true (by first | (with_reducible assumption) | assumption)); (have q497 : x5_1 < (l0.length : Int) := of_decide_eq_true (by first | (with_reducible assumption) | assumption)); (obtain ⟨ad497, A497_0, c497_0, e497, hx497_0, hl497_0, hi497_0⟩ := at_L2 HR0.out x5_1 p497 q497); (cases e497); (replace hx497_0 := (HB.out.cell (World.block_lt_of_cell? w _ hx497_0)).trans hx497_0); (have HR497_0 := Aside0.mk hi497_0); (have HC497_0 := Aside0.mk hl497_0); (clear hi497_0 hl497_0); (replace p497 := eq_true p497); (replace q497 := eq_true q497); (go_wp2); (go_ret); (exact ⟨by first | rfl | (simp [errW_none, errW_some] <;> rfl) | (simp [*, errW_none, errW_some] <;> rfl), by repeat (first | (with_reducible first | exact HB.out | apply y1_ | apply y2_ | apply y3_) | exact HB.out)⟩)
          · rw [if_neg c5] at H
            (have c5b0 : decide (a1 < ((rd_L2 l0 x5_1).length : Int)) = false := decide_eq_false c5); (clear c5); (have H' := Aside0.mk H); (clear H); (have p497 : 0 ≤ (x5_1 : Int) := of_decide_eq_true (by first | (with_reducible assumption) | assumption)); (have q497 : x5_1 < (l0.length : Int) := of_decide_eq_true (by first | (with_reducible assumption) | assumption)); (obtain ⟨ad497, A497_0, c497_0, e497, hx497_0, hl497_0, hi497_0⟩ := at_L2 HR0.out x5_1 p497 q497); (cases e497); (replace hx497_0 := (HB.out.cell (World.block_lt_of_cell? w _ hx497_0)).trans hx497_0); (have HR497_0 := Aside0.mk hi497_0); (have HC497_0 := Aside0.mk hl497_0); (clear hi497_0 hl497_0); (replace p497 := eq_true p497); (replace q497 := eq_true q497); (go_wp2); (go_roundg k1)
            case measure => have := HK1.out; omega
            case rel => exact ⟨(wrap64 (x5_1 + 1)), (by first | rfl | (simp; done) | (simp [*]; done)), H', ⟨by have := HK1.out; omega⟩, ⟨by repeat (first | (with_reducible first | exact HB.out | apply y1_ | apply y2_ | apply y3_) | exact HB.out)⟩⟩
        · rw [if_neg c4] at H
          exact absurd H (by simp)
      · rw [if_neg c3] at H
        (have c3b0 : decide (x5_1 < (l0.length : Int)) = false := decide_eq_false c3); (clear c3); (replace H := Option.bind_eq_some_iff.mp H); (obtain ⟨t498, A60, H⟩ := H); (replace H : (some t498) = some r := H); (have A6 := Aside0.mk A60); (clear A60); (obtain rfl := Option.some.inj H)
        (go_wp2_with (first | ((with_reducible refine gate_callee (f := 29) rfl ?_); refine goesL_ (some 20) rfl rfl Try.func29 (by kernel_rfl) rfl #[.slice A0 l0.length c0] rfl (by (try simp only [List.map_toArray, List.map_cons, List.map_nil]); first | done | rfl | (simp only [List.length_drop, List.length_take]; rfl)) ?_; (with_reducible refine (catchmentref11_Row.calls k1 _ _ l0 t498 _ ?side1 ?side2 A6.out).mono ?_); (case side1 => repeat (first | exact (Kd.C_below HR0.out HB.out) | (with_reducible refine Kd.C_alloc ?_ _) | (with_reducible refine Kd.C_drewN ?_ _) | (with_reducible refine Kd.C_drew ?_))); (case side2 => exact HC0.out); rintro e w7 ⟨rfl, hb⟩; refine ⟨_, rfl, ?_⟩; have n0_ := Aside0.mk (below_step (by repeat (first | (with_reducible first | exact HB.out | apply y1_ | apply y2_ | apply y3_) | exact HB.out)) hb); clear HB; have HB := n0_; clear n0_; (try clear hb); (try clear hb2); (try clear hk); (try clear hi)))); (go_ret); (exact ⟨by first | rfl | (simp [errW_none, errW_some] <;> rfl) | (simp [*, errW_none, errW_some] <;> rfl), by repeat (first | (with_reducible first | exact HB.out | apply y1_ | apply y2_ | apply y3_) | exact HB.out)⟩)
end Go.Proofs.Ytpfikmchimlneaa.M2

