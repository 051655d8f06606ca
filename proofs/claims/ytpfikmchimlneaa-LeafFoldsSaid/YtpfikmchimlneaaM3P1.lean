/- tight -/ -- written by wip/myprint.py and wip/pack.py
import Derived.Test.YtpfikmchimlneaaM3x0
import Derived.Test.YtpfikmchimlneaaM3x15
import Derived.Test.YtpfikmchimlneaaM3P0
import Derived.Test.YtpfikmchimlneaaM3x37
import Derived.Test.YtpfikmchimlneaaM3x81
import Derived.Test.YtpfikmchimlneaaM3x83
-- written by a program of this session (wip/myprint.py), over the kit's printer and the session's own contracts
namespace Go.Proofs.Ytpfikmchimlneaa.M3
open Go.RowKit Go.Proofs.YtpfikmchimlneaaW.PrintWords Go.Proofs.YtpfikmchimlneaaW.PrintLast Go.Proofs.YtpfikmchimlneaaW.PrintMore Go.Proofs.YtpfikmchimlneaaW.Mine
attribute [local go_sem] max2_int min2_int max_two min_two max_three min_three max_four min_four max2_str min2_str binOp_gtr_str binOp_leq_str binOp_geq_str   -- for this text's walks alone
set_option linter.unusedVariables false
set_option linter.unusedSimpArgs false
/-! ### block_Place: function 84 -/
def block_Place.f (k : Nat) (l0 : List (S85)) (a1 : ByteArray) : Option (Int × Bool) := (api_Entry_string_112.f k l0 a1).bind fun bt138 => (some (bt138.1, bt138.2))
theorem block_Place.mono : ∀ a0 a1 k, LeO (block_Place.f k a0 a1) (block_Place.f (k + 1) a0 a1) := by
  (intro a0 a1 k); (unfold block_Place.f)
  repeat' first
      | (with_reducible exact api_Entry_string_112.mono _ _ _)
      | (with_reducible exact LeO.refl _)
      | (with_reducible exact LeO.none _)
      | (with_reducible refine LeO.ite ?_ ?_)
      | (with_reducible refine LeO.bind ?_ (fun _ => ?_))
      | exact api_Entry_string_112.mono _ _ _
      | exact LeO.none _
      | refine LeO.ite ?_ ?_
      | refine LeO.bind ?_ (fun _ => ?_)
set_option maxHeartbeats 8000000 in
set_option maxRecDepth 100000 in
theorem block_Place.calls (k : Nat) (A0 : Option Addr) (c0 : Nat) (l0 : List (S85)) (a1 : ByteArray) (r1 : Int) (r2 : Bool) (w : World) (hr0 : Kd.C k85 w A0 l0.length l0) (hc0 : l0.length ≤ c0) (h : block_Place.f k l0 a1 = some (r1, r2)) :
    Calls Try.prog 84 #[.slice A0 l0.length c0, .string a1] w fun e w' => e = .returned (.tuple #[.int .i64 r1, .bool r2]) ∧ Below w.heap.size w w' := by
  (have HR0 := Aside0.mk hr0); (have HC0 := Aside0.mk hc0); (clear hr0 hc0); (have HB := Aside0.mk (Below.refl w.heap.size w)); (have H : ((api_Entry_string_112.f k l0 a1).bind fun bt138 => (some (bt138.1, bt138.2))) = some (r1, r2) := h); (clear h); (replace H := Option.bind_eq_some_iff.mp H); (obtain ⟨⟨t138, t139⟩, A30, H⟩ := H); (replace H : (some (t138, t139)) = some (r1, r2) := H); (have A3 := Aside0.mk A30); (clear A30); (simp only [Option.some.injEq, Prod.mk.injEq] at H); (obtain ⟨rfl, rfl⟩ := H); (go_enter Try.func84, Try.ntmps84)
  (go_wp2_with (first | ((with_reducible refine gate_callee (f := 112) rfl ?_); refine goesL_ (some 8) rfl rfl Try.func112 (by kernel_rfl) rfl #[.slice A0 l0.length c0, .string a1, .func (.func 113) #[] #[]] rfl (by (try simp only [List.map_toArray, List.map_cons, List.map_nil]); first | done | rfl | (simp only [List.length_drop, List.length_take]; rfl)) ?_; (with_reducible refine (api_Entry_string_112.calls k _ _ l0 a1  t138 t139 _ ?side1 ?side2 A3.out).mono ?_); (case side1 => repeat (first | exact HR0.out | (with_reducible refine Kd.C_alloc ?_ _) | (with_reducible refine Kd.C_drewN ?_ _) | (with_reducible refine Kd.C_drew ?_))); (case side2 => exact HC0.out); rintro e w4 ⟨rfl, hb⟩; refine ⟨_, rfl, ?_⟩; have n0_ := Aside0.mk (below_step (by repeat (first | (with_reducible first | exact HB.out | apply y1_ | apply y2_ | apply y3_) | exact HB.out)) hb); clear HB; have HB := n0_; clear n0_; (try clear hb); (try clear hb2); (try clear hk); (try clear hi)))); (go_ret2); (exact ⟨by first | rfl | (simp [errW_none, errW_some] <;> rfl) | (simp [*, errW_none, errW_some] <;> rfl), by repeat (first | (with_reducible first | exact HB.out | apply y1_ | apply y2_ | apply y3_) | exact HB.out)⟩)
end Go.Proofs.Ytpfikmchimlneaa.M3
-- written by a program of this session (wip/myprint.py), over the kit's printer and the session's own contracts
namespace Go.Proofs.Ytpfikmchimlneaa.M3
open Go.RowKit Go.Proofs.YtpfikmchimlneaaW.PrintWords Go.Proofs.YtpfikmchimlneaaW.PrintLast Go.Proofs.YtpfikmchimlneaaW.PrintMore Go.Proofs.YtpfikmchimlneaaW.Mine
attribute [local go_sem] max2_int min2_int max_two min_two max_three min_three max_four min_four max2_str min2_str binOp_gtr_str binOp_leq_str binOp_geq_str   -- for this text's walks alone
set_option linter.unusedVariables false
set_option linter.unusedSimpArgs false
/-! ### block_Drop: function 102 -/
def block_Drop.f (k : Nat) (l0 : List (S85)) (a1 : ByteArray) : Option ((List (S85))) := (block_Place.f k l0 a1).bind fun bt167 => (if bt167.2 = true then ((block_without.f l0 bt167.1 (wrap64 (bt167.1 + 1))).bind fun t172 => (some t172)) else ((api_Entry_86.f l0).bind fun t169 => (some t169)))
theorem block_Drop.mono : ∀ a0 a1 k, LeO (block_Drop.f k a0 a1) (block_Drop.f (k + 1) a0 a1) := by
  (intro a0 a1 k); (unfold block_Drop.f)
  repeat' first
      | (with_reducible exact block_Place.mono _ _ _)
      | (with_reducible exact LeO.refl _)
      | (with_reducible exact LeO.none _)
      | (with_reducible refine LeO.ite ?_ ?_)
      | (with_reducible refine LeO.bind ?_ (fun _ => ?_))
      | exact block_Place.mono _ _ _
      | exact LeO.none _
      | refine LeO.ite ?_ ?_
      | refine LeO.bind ?_ (fun _ => ?_)
set_option maxHeartbeats 8000000 in
set_option maxRecDepth 100000 in
theorem block_Drop.calls (k : Nat) (A0 : Option Addr) (c0 : Nat) (l0 : List (S85)) (a1 : ByteArray) (r : List (S85)) (w : World) (hr0 : Kd.C k85 w A0 l0.length l0) (hc0 : l0.length ≤ c0) (h : block_Drop.f k l0 a1 = some r) :
    Calls Try.prog 102 #[.slice A0 l0.length c0, .string a1] w fun e w' => ∃ v0_ : Value, e = .returned (v0_) ∧ Kd.R k85 85 w' w.heap.size (fun _ => True) v0_ r ∧ Below w.heap.size w w' := by
  (have HR0 := Aside0.mk hr0); (have HC0 := Aside0.mk hc0); (clear hr0 hc0); (have HB := Aside0.mk (Below.refl w.heap.size w)); (have H : ((block_Place.f k l0 a1).bind fun bt167 => (if bt167.2 = true then ((block_without.f l0 bt167.1 (wrap64 (bt167.1 + 1))).bind fun t172 => (some t172)) else ((api_Entry_86.f l0).bind fun t169 => (some t169)))) = some r := h); (clear h); (replace H := Option.bind_eq_some_iff.mp H); (obtain ⟨⟨t167, t168⟩, A30, H⟩ := H); (replace H : (if t168 = true then ((block_without.f l0 t167 (wrap64 (t167 + 1))).bind fun t172 => (some t172)) else ((api_Entry_86.f l0).bind fun t169 => (some t169))) = some r := H); (have A3 := Aside0.mk A30); (clear A30); (by_cases c4 : t168 = true)
  · subst c4
    (have H1 : ((block_without.f l0 t167 (wrap64 (t167 + 1))).bind fun t172 => (some t172)) = some r := by rw [if_pos rfl] at H; exact H); (clear H); (have H := H1); (clear H1); (replace H := Option.bind_eq_some_iff.mp H); (obtain ⟨t172, A50, H⟩ := H); (replace H : (some t172) = some r := H); (have A5 := Aside0.mk A50); (clear A50); (obtain rfl := Option.some.inj H); (go_enter Try.func102, Try.ntmps102)
    go_wp2_with (first | ((with_reducible refine gate_callee (f := 84) rfl ?_); refine goesL_ (some 10) rfl rfl Try.func84 (by kernel_rfl) rfl #[.slice A0 l0.length c0, .string a1] rfl (by (try simp only [List.map_toArray, List.map_cons, List.map_nil]); first | done | rfl | (simp only [List.length_drop, List.length_take]; rfl)) ?_; (with_reducible refine (block_Place.calls k _ _ l0 a1 t167 true _ ?side1 ?side2 A3.out).mono ?_); (case side1 => repeat (first | exact HR0.out | (with_reducible refine Kd.C_alloc ?_ _) | (with_reducible refine Kd.C_drewN ?_ _) | (with_reducible refine Kd.C_drew ?_))); (case side2 => exact HC0.out); rintro e w6 ⟨rfl, hb⟩; refine ⟨_, rfl, ?_⟩; have n0_ := Aside0.mk (below_step (by repeat (first | (with_reducible first | exact HB.out | apply y1_ | apply y2_ | apply y3_) | exact HB.out)) hb); clear HB; have HB := n0_; clear n0_; (try clear hb); (try clear hb2); (try clear hk); (try clear hi)) | ((with_reducible refine gate_callee (f := 121) rfl ?_); refine goesL_ (some 21) rfl rfl Try.func121 (by kernel_rfl) rfl #[.slice A0 l0.length c0, .int .i64 t167, .int .i64 (wrap64 (t167 + 1))] rfl (by (try simp only [List.map_toArray, List.map_cons, List.map_nil]); first | done | rfl | (simp only [List.length_drop, List.length_take]; rfl)) ?_; (with_reducible refine (block_without.calls _ _ l0 t167 (wrap64 (t167 + 1)) t172 _ ?side1 ?side2 A5.out).mono ?_); (case side1 => repeat (first | exact (Kd.C_below HR0.out HB.out) | (with_reducible refine Kd.C_alloc ?_ _) | (with_reducible refine Kd.C_drewN ?_ _) | (with_reducible refine Kd.C_drew ?_))); (case side2 => exact HC0.out); rintro e w7 ⟨v173, rfl, ho0, hb⟩; refine ⟨_, rfl, ?_⟩; have n0_ := Aside0.mk (Kd.R_lower ho0 (below_size (by repeat (first | (with_reducible first | exact HB.out | apply y1_ | apply y2_ | apply y3_) | exact HB.out)))); have n1_ := Aside0.mk (below_step (by repeat (first | (with_reducible first | exact HB.out | apply y1_ | apply y2_ | apply y3_) | exact HB.out)) hb); clear HB; have HO174 := n0_; have HB := n1_; clear n0_ n1_; (try clear hb); (try clear hb2); (try clear hk); (try clear hi); (try clear ho0)))
    (go_ret); (exact ⟨_, by first | rfl | (simp [errW_none, errW_some] <;> rfl) | (simp [*, errW_none, errW_some] <;> rfl), by (with_reducible repeat (first | apply Kd.R_alloc | apply Kd.R_drewN | apply Kd.R_drew)); exact HO174.out, by repeat (first | (with_reducible first | exact HB.out | apply y1_ | apply y2_ | apply y3_) | exact HB.out)⟩)
  · replace c4 := Bool.eq_false_iff.mpr c4
    (subst c4); (have H1 : ((api_Entry_86.f l0).bind fun t169 => (some t169)) = some r := by rw [if_neg (show ¬ (false = true) by decide)] at H; exact H); (clear H); (have H := H1); (clear H1); (replace H := Option.bind_eq_some_iff.mp H); (obtain ⟨t169, A80, H⟩ := H); (replace H : (some t169) = some r := H); (have A8 := Aside0.mk A80); (clear A80); (obtain rfl := Option.some.inj H); (go_enter Try.func102, Try.ntmps102)
    go_wp2_with (first | ((with_reducible refine gate_callee (f := 84) rfl ?_); refine goesL_ (some 10) rfl rfl Try.func84 (by kernel_rfl) rfl #[.slice A0 l0.length c0, .string a1] rfl (by (try simp only [List.map_toArray, List.map_cons, List.map_nil]); first | done | rfl | (simp only [List.length_drop, List.length_take]; rfl)) ?_; (with_reducible refine (block_Place.calls k _ _ l0 a1 t167 false _ ?side1 ?side2 A3.out).mono ?_); (case side1 => repeat (first | exact HR0.out | (with_reducible refine Kd.C_alloc ?_ _) | (with_reducible refine Kd.C_drewN ?_ _) | (with_reducible refine Kd.C_drew ?_))); (case side2 => exact HC0.out); rintro e w9 ⟨rfl, hb⟩; refine ⟨_, rfl, ?_⟩; have n0_ := Aside0.mk (below_step (by repeat (first | (with_reducible first | exact HB.out | apply y1_ | apply y2_ | apply y3_) | exact HB.out)) hb); clear HB; have HB := n0_; clear n0_; (try clear hb); (try clear hb2); (try clear hk); (try clear hi)) | ((with_reducible refine gate_callee (f := 86) rfl ?_); refine goesL_ (some 16) rfl rfl Try.func86 (by kernel_rfl) rfl #[.slice A0 l0.length c0] rfl (by (try simp only [List.map_toArray, List.map_cons, List.map_nil]); first | done | rfl | (simp only [List.length_drop, List.length_take]; rfl)) ?_; (with_reducible refine (api_Entry_86.calls _ _ l0 t169 _ ?side1 ?side2 A8.out).mono ?_); (case side1 => repeat (first | exact (Kd.C_below HR0.out HB.out) | (with_reducible refine Kd.C_alloc ?_ _) | (with_reducible refine Kd.C_drewN ?_ _) | (with_reducible refine Kd.C_drew ?_))); (case side2 => exact HC0.out); rintro e w10 ⟨v170, rfl, ho0, hb⟩; refine ⟨_, rfl, ?_⟩; have n0_ := Aside0.mk (Kd.R_lower ho0 (below_size (by repeat (first | (with_reducible first | exact HB.out | apply y1_ | apply y2_ | apply y3_) | exact HB.out)))); have n1_ := Aside0.mk (below_step (by repeat (first | (with_reducible first | exact HB.out | apply y1_ | apply y2_ | apply y3_) | exact HB.out)) hb); clear HB; have HO171 := n0_; have HB := n1_; clear n0_ n1_; (try clear hb); (try clear hb2); (try clear hk); (try clear hi); (try clear ho0)))
    (go_ret); (exact ⟨_, by first | rfl | (simp [errW_none, errW_some] <;> rfl) | (simp [*, errW_none, errW_some] <;> rfl), by (with_reducible repeat (first | apply Kd.R_alloc | apply Kd.R_drewN | apply Kd.R_drew)); exact HO171.out, by repeat (first | (with_reducible first | exact HB.out | apply y1_ | apply y2_ | apply y3_) | exact HB.out)⟩)
end Go.Proofs.Ytpfikmchimlneaa.M3
-- written by a program of this session (wip/myprint.py), over the kit's printer and the session's own contracts
namespace Go.Proofs.Ytpfikmchimlneaa.M3
open Go.RowKit Go.Proofs.YtpfikmchimlneaaW.PrintWords Go.Proofs.YtpfikmchimlneaaW.PrintLast Go.Proofs.YtpfikmchimlneaaW.PrintMore Go.Proofs.YtpfikmchimlneaaW.Mine
attribute [local go_sem] max2_int min2_int max_two min_two max_three min_three max_four min_four max2_str min2_str binOp_gtr_str binOp_leq_str binOp_geq_str   -- for this text's walks alone
set_option linter.unusedVariables false
set_option linter.unusedSimpArgs false
/-! ### leaf_of: function 83 -/
def leaf_of.f (k : Nat) (l0 : List (List (S85))) (a1 : ByteArray) : Option (Int) := (api_Entry_string_109.f k l0 a1).bind fun bt210 => (if bt210.2 = true then (some bt210.1) else (some (mx (wrap64 (bt210.1 - 1)) 0)))
theorem leaf_of.mono : ∀ a0 a1 k, LeO (leaf_of.f k a0 a1) (leaf_of.f (k + 1) a0 a1) := by
  (intro a0 a1 k); (unfold leaf_of.f)
  repeat' first
      | (with_reducible exact api_Entry_string_109.mono _ _ _)
      | (with_reducible exact LeO.refl _)
      | (with_reducible exact LeO.none _)
      | (with_reducible refine LeO.ite ?_ ?_)
      | (with_reducible refine LeO.bind ?_ (fun _ => ?_))
      | exact api_Entry_string_109.mono _ _ _
      | exact LeO.none _
      | refine LeO.ite ?_ ?_
      | refine LeO.bind ?_ (fun _ => ?_)
set_option maxHeartbeats 8000000 in
set_option maxRecDepth 100000 in
theorem leaf_of.calls (k : Nat) (A0 : Option Addr) (c0 : Nat) (l0 : List (List (S85))) (a1 : ByteArray) (r : Int) (w : World) (hr0 : Kd.C (Kd.slice 85 k85) w A0 l0.length l0) (hc0 : l0.length ≤ c0) (h : leaf_of.f k l0 a1 = some r) :
    Calls Try.prog 83 #[.slice A0 l0.length c0, .string a1] w fun e w' => e = .returned (.int .i64 r) ∧ Below w.heap.size w w' := by
  (have HR0 := Aside0.mk hr0); (have HC0 := Aside0.mk hc0); (clear hr0 hc0); (have HB := Aside0.mk (Below.refl w.heap.size w)); (have H : ((api_Entry_string_109.f k l0 a1).bind fun bt210 => (if bt210.2 = true then (some bt210.1) else (some (mx (wrap64 (bt210.1 - 1)) 0)))) = some r := h); (clear h); (replace H := Option.bind_eq_some_iff.mp H); (obtain ⟨⟨t210, t211⟩, A30, H⟩ := H); (replace H : (if t211 = true then (some t210) else (some (mx (wrap64 (t210 - 1)) 0))) = some r := H); (have A3 := Aside0.mk A30); (clear A30); (by_cases c4 : t211 = true)
  · subst c4
    (have H1 : (some t210) = some r := by rw [if_pos rfl] at H; exact H); (clear H); (have H := H1); (clear H1); (obtain rfl := Option.some.inj H); (go_enter Try.func83, Try.ntmps83); (go_wp2_with (first | ((with_reducible refine gate_callee (f := 109) rfl ?_); refine goesL_ (some 10) rfl rfl Try.func109 (by kernel_rfl) rfl #[.slice A0 l0.length c0, .string a1, .func (.func 110) #[] #[]] rfl (by (try simp only [List.map_toArray, List.map_cons, List.map_nil]); first | done | rfl | (simp only [List.length_drop, List.length_take]; rfl)) ?_; (with_reducible refine (api_Entry_string_109.calls k _ _ l0 a1  t210 true _ ?side1 ?side2 A3.out).mono ?_); (case side1 => repeat (first | exact HR0.out | (with_reducible refine Kd.C_alloc ?_ _) | (with_reducible refine Kd.C_drewN ?_ _) | (with_reducible refine Kd.C_drew ?_))); (case side2 => exact HC0.out); rintro e w' ⟨rfl, ⟨nd, rfl⟩⟩; refine ⟨_, rfl, ?_⟩))); (go_ret); (exact ⟨by first | rfl | (simp [errW_none, errW_some] <;> rfl) | (simp [*, errW_none, errW_some] <;> rfl), by repeat (first | (with_reducible first | exact HB.out | apply y1_ | apply y2_ | apply y3_) | exact HB.out)⟩)
  · replace c4 := Bool.eq_false_iff.mpr c4
    (subst c4); (have H1 : (some (mx (wrap64 (t210 - 1)) 0)) = some r := by rw [if_neg (show ¬ (false = true) by decide)] at H; exact H); (clear H); (have H := H1); (clear H1); (obtain ⟨ji5, hji5⟩ : ∃ j_ : Int, (mx (wrap64 (t210 - 1)) 0) = j_ := ⟨_, rfl⟩); (replace H : (some ji5) = some r := by first | (rw [hji5] at H; exact H) | (simp only [hji5] at H ⊢; exact H)); ((try rw [hji5] at A3)); ((try (have hji5l : 0 ≤ ji5 := by (rw [← hji5]; unfold mx; (repeat' split) <;> omega)))); ((try (have hji5m : 0 ≤ ji5 := by omega))); (have hji5_ : (if (wrap64 (t210 - 1)) < 0 then 0 else (wrap64 (t210 - 1))) = ji5 := hji5); (obtain rfl := Option.some.inj H); (go_enter Try.func83, Try.ntmps83)
    (go_wp2_with (first | ((with_reducible refine gate_callee (f := 109) rfl ?_); refine goesL_ (some 10) rfl rfl Try.func109 (by kernel_rfl) rfl #[.slice A0 l0.length c0, .string a1, .func (.func 110) #[] #[]] rfl (by (try simp only [List.map_toArray, List.map_cons, List.map_nil]); first | done | rfl | (simp only [List.length_drop, List.length_take]; rfl)) ?_; (with_reducible refine (api_Entry_string_109.calls k _ _ l0 a1  t210 false _ ?side1 ?side2 A3.out).mono ?_); (case side1 => repeat (first | exact HR0.out | (with_reducible refine Kd.C_alloc ?_ _) | (with_reducible refine Kd.C_drewN ?_ _) | (with_reducible refine Kd.C_drew ?_))); (case side2 => exact HC0.out); rintro e w' ⟨rfl, ⟨nd, rfl⟩⟩; refine ⟨_, rfl, ?_⟩))); (go_ret); (exact ⟨by first | rfl | (simp [errW_none, errW_some] <;> rfl) | (simp only [← hji5]; first | rfl | (simp [errW_none, errW_some] <;> rfl)) | (simp [*, errW_none, errW_some] <;> rfl), by repeat (first | (with_reducible first | exact HB.out | apply y1_ | apply y2_ | apply y3_) | exact HB.out)⟩)
end Go.Proofs.Ytpfikmchimlneaa.M3
-- written by a program of this session (wip/myprint.py), over the kit's printer and the session's own contracts
namespace Go.Proofs.Ytpfikmchimlneaa.M3
open Go.RowKit Go.Proofs.YtpfikmchimlneaaW.PrintWords Go.Proofs.YtpfikmchimlneaaW.PrintLast Go.Proofs.YtpfikmchimlneaaW.PrintMore Go.Proofs.YtpfikmchimlneaaW.Mine
attribute [local go_sem] max2_int min2_int max_two min_two max_three min_three max_four min_four max2_str min2_str binOp_gtr_str binOp_leq_str binOp_geq_str   -- for this text's walks alone
set_option linter.unusedVariables false
set_option linter.unusedSimpArgs false
/-! ### catchmentref11_Fold: function 35 -/
-- over catchmentref11_Apply
open Go.Proofs.YtpfikmchimlneaaW.Sl
/-- messages, one behind the other -/
inductive catchmentref11_Fold.Chain (k : Nat) (most : Int) : List S69 → List (List S85) → List (List S85) → Prop
  | nil (l : List (List S85)) : Chain k most [] l l
  | cons (m : S69) (ms : List S69) (l y r : List (List S85)) : catchmentref11_Apply.Step k most m l y → Chain k most ms y r → Chain k most (m :: ms) l r
set_option maxHeartbeats 16000000 in
set_option maxRecDepth 100000 in
theorem catchmentref11_Fold.calls {w : World} {A : Option Addr} {c : Nat} {l r : List (List S85)} (hV : catchmentref11_both.VV w (.slice A l.length c) l) (A1 : Option Addr) (c1 : Nat) (ms : List S69) (hr1 : Kd.C k69 w A1 ms.length ms) (hc1 : ms.length ≤ c1) (most : Int) (hm2 : most ≤ 9223372036854775807) (k : Nat) (h : catchmentref11_Fold.Chain k most ms l r) :
    Calls Try.prog 35 #[.slice A l.length c, .slice A1 ms.length c1, .int .i64 most] w fun e' w' => ∃ v', e' = .returned v' ∧ catchmentref11_both.VV w' v' r ∧ Below w.heap.size w w' := by
  have HV := Aside0.mk hV
  have HR1 := Aside0.mk hr1
  have H := Aside0.mk h
  have hmax : ms.length ≤ 9223372036854775807 := hr1.2.1
  obtain ⟨n, hn⟩ : ∃ n, ms.length = n := ⟨_, rfl⟩
  have HN := Aside0.mk hn
  rw [hn] at hmax ⊢
  clear hV hr1 h hn hc1
  go_enter Try.func35, Try.ntmps35
  go_wp2_with fail
  go_loopw [0, 7] (fun v i wr => ∃ (j : Nat) (xs : List (List S85)), i = .int .i64 (j : Int) ∧ j ≤ n ∧ Aside0 (catchmentref11_Fold.Chain k most (ms.drop j) xs r) ∧ Aside0 (catchmentref11_both.VV wr v xs) ∧ Aside0 (Below w.heap.size w wr)) (fun _ i _ => n - (intOf i).toNat)
  case atStart => exact ⟨0, l, rfl, Nat.zero_le _, H, HV, ⟨Below.refl _ _⟩⟩
  case round =>
    clear H HV
    obtain ⟨j, xs, rfl, hj, HF, HVr, HB⟩ := hrel
    by_cases hlt : j < n
    · obtain ⟨x, hx⟩ : ∃ x, ms.getD j z69 = x := ⟨_, rfl⟩
      have hj2 : j < ms.length := by rw [HN.out]; exact hlt
      have hd : ms.drop j = x :: ms.drop (j + 1) := by
        rw [List.drop_eq_getElem_cons hj2, ← hx, List.getD_eq_getElem?_getD, List.getElem?_eq_getElem hj2]
        rfl
      have hf := HF.out
      rw [hd] at hf
      obtain ⟨ys, hst, hch⟩ : ∃ ys, catchmentref11_Apply.Step k most x xs ys ∧ catchmentref11_Fold.Chain k most (ms.drop (j + 1)) ys r := by
        cases hf with
        | cons _ _ _ y _ h1 h2 => exact ⟨y, h1, h2⟩
      have HST := Aside0.mk hst
      have HCH := Aside0.mk hch
      have HLT := Aside0.mk hlt
      obtain ⟨A0, c0, rfl⟩ := Kd.V_slice HVr.out
      obtain ⟨ad, rfl, x0, x1, x2, x3, x4, x5⟩ := at_T69 (Kd.C_below HR1.out HB.out) (j : Int) (by omega) (by rw [HN.out]; omega)
      have hrd : rd_T69 ms (j : Int) = x := by
        unfold rd_T69
        rw [Int.toNat_natCast]
        exact hx
      rw [hrd] at x0 x1 x2 x3 x4 x5
      simp only [Int.toNat_natCast] at x0 x1 x2 x3 x4 x5
      have p1 : (j : Int) < (n : Int) := by omega
      have p2 : (0 : Int) ≤ (j : Int) := by omega
      have HM := Aside0.mk hm2
      clear hst hch hf hd hx hj2 hrd HF hlt hm2
      go_wp2_with (go_at_call 33; refine (catchmentref11_Apply.calls HVr.out x most HM.out k HST.out).mono ?_; rintro e5 w5 ⟨v5, rfl, hV5, hB5⟩; have HV5 := Aside0.mk hV5; have HB5 := Aside0.mk (HB.out.trans (hB5.mono HB.out.size)); clear hV5 hB5)
      go_roundw
      case rel => exact ⟨j + 1, ys, by go_num, (by have := HLT.out; omega), HCH, HV5, HB5⟩
      case measure => simp [intOf]; have := HLT.out; omega
    · obtain rfl : n = j := by omega
      go_wp2
      go_ret
      have hf := HF.out
      rw [List.drop_of_length_le (by rw [HN.out]; exact Nat.le_refl _)] at hf
      cases hf
      exact ⟨_, rfl, HVr.out, HB.out⟩
end Go.Proofs.Ytpfikmchimlneaa.M3

