/- tight -/ -- written by wip/myprint.py
import Derived.Test.YtnklnjghecmihaaL2x0
import Derived.Test.YtnklnjghecmihaaL2x56
import Derived.Test.YtnklnjghecmihaaL2P0
namespace Go.Proofs.Ytnklnjghecmihaa.L2
open Go.RowKit Go.Proofs.YtnklnjghecmihaaW PrintWords PrintLast PrintMore Mine
attribute [local go_sem] max2_int min2_int max_two min_two max_three min_three max_four min_four max2_str min2_str binOp_gtr_str binOp_leq_str binOp_geq_str
set_option linter.unusedVariables false
set_option linter.unusedSimpArgs false
theorem q60_0 {P : Prop} (h : P := by (with_reducible repeat first | exact HB.out | apply y1_ | apply y2_ | apply y3_) <;> exact HB.out) : P := h
theorem q60_1 {P : Prop} (h : P := by (with_reducible repeat first | apply z1_ | apply z2_ | apply z3_); exact BK480.out) : P := h
theorem q60_2 {P : Prop} (h : P := by (with_reducible repeat first | exact HB.out | apply y1_ | apply y2_ | apply y3_ | refine y4_ ?_ GE480.out) <;> exact HB.out) : P := h

/-! ### catchmentref04_On: function 105 -/
def catchmentref04_On.j0 : Nat → ByteArray → ByteArray → Bool → Int → Int → ByteArray → ByteArray → ByteArray → Int → Option (ByteArray × Bool)
 | 0, _, _, _, _, _, _, _, _, _ => none
 | k + 1, x1, x2, x3, x481000, x481001, x481002, x481003, x481004, x481005 => (catchmentref04_Touches.f x481000 x481001 x481002 x481003 x481004 x481005 x1).bind fun t481 => (if t481 = true then (if x481000 = 1 then (some (x481004, true)) else (if x481000 = 3 then ((catchmentref03_Add.f k x2 x3 x481005).bind fun t482 => (some (t482, true))) else (some ((⟨#[]⟩ : ByteArray), false)))) else (some (x2, x3)))
def catchmentref04_On.f (k : Nat) (a0_0 : Int) (a0_1 : Int) (a0_2 : ByteArray) (a0_3 : ByteArray) (a0_4 : ByteArray) (a0_5 : Int) (a1 : ByteArray) (a2 : ByteArray) (a3 : Bool) : Option (ByteArray × Bool) := if a3 = true then (catchmentref04_On.j0 k a1 a2 a3 a0_0 a0_1 a0_2 a0_3 a0_4 a0_5) else (catchmentref04_On.j0 k a1 (⟨#[]⟩ : ByteArray) a3 a0_0 a0_1 a0_2 a0_3 a0_4 a0_5)
theorem catchmentref04_On.mono_l : ∀ k, (∀ y0 y1 y2 y3 y4 y5 y6 y7 y8, LeO (catchmentref04_On.j0 k y0 y1 y2 y3 y4 y5 y6 y7 y8) (catchmentref04_On.j0 (k + 1) y0 y1 y2 y3 y4 y5 y6 y7 y8))
 | 0 => fun _ _ _ _ _ _ _ _ _ r h => by simp [catchmentref04_On.j0] at h
 | k + 1 => by
  have ih0 := catchmentref04_On.mono_l k
  ·intro y0 y1 y2 y3 y4 y5 y6 y7 y8
   unfold catchmentref04_On.j0
   repeat' (with_reducible first | exact ih0 _ _ _ _ _ _ _ _ _ | exact catchmentref03_Add.mono _ _ _ _ | exact LeO.refl _ | exact LeO.none _ | refine LeO.ite ?_ ?_ | refine LeO.bind ?_ (fun _ => ?_))
theorem catchmentref04_On.mono : ∀ a0 a1 a2 a3 a4 a5 a6 a7 a8 k, LeO (catchmentref04_On.f k a0 a1 a2 a3 a4 a5 a6 a7 a8) (catchmentref04_On.f (k + 1) a0 a1 a2 a3 a4 a5 a6 a7 a8) := by
 (intro a0 a1 a2 a3 a4 a5 a6 a7 a8 k); (have ih0 := catchmentref04_On.mono_l k); (unfold catchmentref04_On.f)
 repeat' (with_reducible first | exact ih0 _ _ _ _ _ _ _ _ _ | exact catchmentref03_Add.mono _ _ _ _ | exact LeO.refl _ | exact LeO.none _ | refine LeO.ite ?_ ?_ | refine LeO.bind ?_ (fun _ => ?_))
set_option maxHeartbeats 8000000 in
set_option maxRecDepth 100000 in
theorem catchmentref04_On.calls (k : Nat) (a0_0 : Int) (a0_1 : Int) (a0_2 : ByteArray) (a0_3 : ByteArray) (a0_4 : ByteArray) (a0_5 : Int) (a1 : ByteArray) (a2 : ByteArray) (a3 : Bool) (r1 : ByteArray) (r2 : Bool) (w : World) (h : catchmentref04_On.f k a0_0 a0_1 a0_2 a0_3 a0_4 a0_5 a1 a2 a3 = some (r1, r2)) :
  Calls Try.prog 105 #[.agg #[.int .u8 a0_0, .int .i64 a0_1, .string a0_2, .string a0_3, .string a0_4, .int .u64 a0_5], .string a1, .string a2, .bool a3] w fun e w' => e = .returned (.tuple #[.string r1, .bool r2]) ∧ Below w.heap.size w w' := by
 (have hu46 := Try.underlying46); (have HB := Aside0.mk (Below.refl w.heap.size w)); (have H : (if a3 = true then (catchmentref04_On.j0 k a1 a2 a3 a0_0 a0_1 a0_2 a0_3 a0_4 a0_5) else (catchmentref04_On.j0 k a1 (⟨#[]⟩ : ByteArray) a3 a0_0 a0_1 a0_2 a0_3 a0_4 a0_5)) = some (r1, r2) := h); (clear h); (have HC5 := Aside0.mk H); (clear H); (go_enter Try.func105, Try.ntmps105)
 (go_upto_if 11 with (first | ((with_reducible refine gate_dst (N := 4) rfl ?_); refine box_event ?hg (N := 4) ?hd (cs := #[.int .u8 a0_0, .int .i64 a0_1, .string a0_2, .string a0_3, .string a0_4, .int .u64 a0_5]) (t := 46) ?hr ?_; (case hd => rfl); (case hg => rfl); (case hr => first | (go_simp; done) | (go_simp; rfl)); intro gb480 hg w6 hbox hb; have BK480 := Aside0.mk (hbox); have GW480 := Aside0.mk (hs_ hg (q60_0)); replace HB := Aside0.mk (below_step (q60_0) hb); have GE480 := GW480; clear hb hbox hg))); ((try simp only [Act.put, List.setIfInBounds_toArray, List.set_cons_zero, List.set_cons_succ]))
 go_cut [2] (fun v2 wc => ∃ (kq : Nat) (x2_4 : ByteArray), v2 = .string x2_4 ∧ Aside0 (catchmentref04_On.j0 kq a1 x2_4 a3 a0_0 a0_1 a0_2 a0_3 a0_4 a0_5 = some (r1, r2)) ∧ Aside0 (kq ≤ k) ∧ Aside0 (wc.heap[gb480]? = some (.cells #[.int .u8 a0_0, .int .i64 a0_1, .string a0_2, .string a0_3, .string a0_4, .int .u64 a0_5] 46 (0, 0))) ∧ Aside0 (Below w.heap.size w wc))
 case first =>
  (have H := HC5.out); (clear HC5); (by_cases c7 : a3 = true)
  ·subst c7
   (have H1 : (catchmentref04_On.j0 k a1 a2 true a0_0 a0_1 a0_2 a0_3 a0_4 a0_5) = some (r1, r2) := by rw [if_pos rfl] at H; exact H); (clear H); (have H := H1); (clear H1); (have H' := Aside0.mk H); (clear H); (go_wp2); (go_meet)
   case rel => exact ⟨_, (a2), (by first | rfl | (simp; done) | (simp [*]; done)), H', ⟨by first | omega | exact Nat.le_refl _⟩, ⟨q60_1⟩, ⟨q60_2⟩⟩
  ·replace c7 := Bool.eq_false_iff.mpr c7
   (subst c7); (have H1 : (catchmentref04_On.j0 k a1 (⟨#[]⟩ : ByteArray) false a0_0 a0_1 a0_2 a0_3 a0_4 a0_5) = some (r1, r2) := by rw [if_neg (show ¬ (false = true) by decide)] at H; exact H); (clear H); (have H := H1); (clear H1); (have H' := Aside0.mk H); (clear H); (go_wp2); (go_meet)
   case rel => exact ⟨_, ((⟨#[]⟩ : ByteArray)), (by first | rfl | (simp; done) | (simp [*]; done)), H', ⟨by first | omega | exact Nat.le_refl _⟩, ⟨q60_1⟩, ⟨q60_2⟩⟩
 case rest =>
  (clear HC5); (try clear c1); (try clear p2); (try clear c7); (obtain ⟨kq, x2_4, rfl, HA, HJ4, BK480, HB⟩ := hcut)
  cases kq with
  | zero => exact absurd HA.out (by simp [catchmentref04_On.j0])
  | succ kj4 =>
   (have H := HA.out); (clear HA); (simp only [catchmentref04_On.j0] at H); (replace H := Option.bind_eq_some_iff.mp H); (obtain ⟨t481, A80, H⟩ := H); (replace H : (if t481 = true then (if a0_0 = 1 then (some (a0_4, true)) else (if a0_0 = 3 then ((catchmentref03_Add.f kj4 x2_4 a3 a0_5).bind fun t482 => (some (t482, true))) else (some ((⟨#[]⟩ : ByteArray), false)))) else (some (x2_4, a3))) = some (r1, r2) := H); (have A8 := Aside0.mk A80); (clear A80); (by_cases c9 : t481 = true)
   ·subst c9
    (have H1 : (if a0_0 = 1 then (some (a0_4, true)) else (if a0_0 = 3 then ((catchmentref03_Add.f kj4 x2_4 a3 a0_5).bind fun t482 => (some (t482, true))) else (some ((⟨#[]⟩ : ByteArray), false)))) = some (r1, r2) := by rw [if_pos rfl] at H; exact H); (clear H); (have H := H1); (clear H1); (by_cases c10 : a0_0 = 1)
    ·rw [if_pos c10] at H
     (have c10b0 : (a0_0 == 1) = true := beq_iff_eq.mpr c10); (have c10b1 : (a0_0 != 1) = false := bne_eq_false_iff_eq.mpr c10); (clear c10); (simp only [Option.some.injEq, Prod.mk.injEq] at H); (obtain ⟨rfl, rfl⟩ := H); (obtain ⟨hcz11_0, hcz11_1, hcz11_2, hcz11_3, hcz11_4, hcz11_5, hfz11_0, hfz11_1, hfz11_2, hfz11_3, hfz11_4, hfz11_5⟩ := bf6_ BK480)
     go_wp2_with (first | ((with_reducible refine gate_callee (f := 61) rfl ?_); refine goesL_ (some 14) rfl rfl Try.func61 (by kernel_rfl) rfl #[.agg #[.int .u8 a0_0, .int .i64 a0_1, .string a0_2, .string a0_3, .string a0_4, .int .u64 a0_5], .string a1] rfl (by (try simp only [List.map_toArray, List.map_cons, List.map_nil]); first | done | rfl) ?_; (with_reducible refine (catchmentref04_Touches.calls a0_0 a0_1 a0_2 a0_3 a0_4 a0_5 a1 true _ A8.out).mono ?_); rintro e w12 ⟨rfl, hb⟩; refine ⟨_, rfl, ?_⟩; replace BK480 := Aside0.mk (blk_below (q60_1) hb); replace HB := Aside0.mk (below_step (q60_2) hb); (try clear hb); (try clear hb2); (try clear hk); (try clear hi); obtain ⟨hcz13_0, hcz13_1, hcz13_2, hcz13_3, hcz13_4, hcz13_5, hfz13_0, hfz13_1, hfz13_2, hfz13_3, hfz13_4, hfz13_5⟩ := bf6_ BK480))
     (go_ret2); (exact ⟨by first | rfl | (simp [*, errW_none, errW_some] <;> rfl), q60_2⟩)
    ·rw [if_neg c10] at H
     (have c10b0 : (a0_0 == 1) = false := beq_eq_false_iff_ne.mpr c10); (have c10b1 : (a0_0 != 1) = true := bne_iff_ne.mpr c10); (by_cases c14 : a0_0 = 3)
     ·rw [if_pos c14] at H
      (have c14b0 : (a0_0 == 3) = true := beq_iff_eq.mpr c14); (have c14b1 : (a0_0 != 3) = false := bne_eq_false_iff_eq.mpr c14); (clear c14); (replace H := Option.bind_eq_some_iff.mp H); (obtain ⟨t482, A150, H⟩ := H); (replace H : (some (t482, true)) = some (r1, r2) := H); (have A15 := Aside0.mk A150); (clear A150); (simp only [Option.some.injEq, Prod.mk.injEq] at H); (obtain ⟨rfl, rfl⟩ := H); (obtain ⟨hcz16_0, hcz16_1, hcz16_2, hcz16_3, hcz16_4, hcz16_5, hfz16_0, hfz16_1, hfz16_2, hfz16_3, hfz16_4, hfz16_5⟩ := bf6_ BK480)
      go_wp2_with (first | ((with_reducible refine gate_callee (f := 61) rfl ?_); refine goesL_ (some 14) rfl rfl Try.func61 (by kernel_rfl) rfl #[.agg #[.int .u8 a0_0, .int .i64 a0_1, .string a0_2, .string a0_3, .string a0_4, .int .u64 a0_5], .string a1] rfl (by (try simp only [List.map_toArray, List.map_cons, List.map_nil]); first | done | rfl) ?_; (with_reducible refine (catchmentref04_Touches.calls a0_0 a0_1 a0_2 a0_3 a0_4 a0_5 a1 true _ A8.out).mono ?_); rintro e w17 ⟨rfl, hb⟩; refine ⟨_, rfl, ?_⟩; replace BK480 := Aside0.mk (blk_below (q60_1) hb); replace HB := Aside0.mk (below_step (q60_2) hb); (try clear hb); (try clear hb2); (try clear hk); (try clear hi); obtain ⟨hcz18_0, hcz18_1, hcz18_2, hcz18_3, hcz18_4, hcz18_5, hfz18_0, hfz18_1, hfz18_2, hfz18_3, hfz18_4, hfz18_5⟩ := bf6_ BK480) | ((with_reducible refine gate_callee (f := 143) rfl ?_); refine goesL_ (some 30) rfl rfl Try.func143 (by kernel_rfl) rfl #[.string x2_4, .bool a3, .int .u64 a0_5] rfl (by (try simp only [List.map_toArray, List.map_cons, List.map_nil]); first | done | rfl) ?_; (with_reducible refine (catchmentref03_Add.calls kj4 x2_4 a3 a0_5 t482 _ A15.out).mono ?_); rintro e w19 ⟨rfl, hb⟩; refine ⟨_, rfl, ?_⟩; replace BK480 := Aside0.mk (blk_below (q60_1) hb); replace HB := Aside0.mk (below_step (q60_2) hb); (try clear hb); (try clear hb2); (try clear hk); (try clear hi)))
      (go_ret2); (exact ⟨by first | rfl | (simp [*, errW_none, errW_some] <;> rfl), q60_2⟩)
     ·rw [if_neg c14] at H
      (have c14b0 : (a0_0 == 3) = false := beq_eq_false_iff_ne.mpr c14); (have c14b1 : (a0_0 != 3) = true := bne_iff_ne.mpr c14); (simp only [Option.some.injEq, Prod.mk.injEq] at H); (obtain ⟨rfl, rfl⟩ := H); (obtain ⟨hcz20_0, hcz20_1, hcz20_2, hcz20_3, hcz20_4, hcz20_5, hfz20_0, hfz20_1, hfz20_2, hfz20_3, hfz20_4, hfz20_5⟩ := bf6_ BK480)
      go_wp2_with (first | ((with_reducible refine gate_callee (f := 61) rfl ?_); refine goesL_ (some 14) rfl rfl Try.func61 (by kernel_rfl) rfl #[.agg #[.int .u8 a0_0, .int .i64 a0_1, .string a0_2, .string a0_3, .string a0_4, .int .u64 a0_5], .string a1] rfl (by (try simp only [List.map_toArray, List.map_cons, List.map_nil]); first | done | rfl) ?_; (with_reducible refine (catchmentref04_Touches.calls a0_0 a0_1 a0_2 a0_3 a0_4 a0_5 a1 true _ A8.out).mono ?_); rintro e w21 ⟨rfl, hb⟩; refine ⟨_, rfl, ?_⟩; replace BK480 := Aside0.mk (blk_below (q60_1) hb); replace HB := Aside0.mk (below_step (q60_2) hb); (try clear hb); (try clear hb2); (try clear hk); (try clear hi); obtain ⟨hcz22_0, hcz22_1, hcz22_2, hcz22_3, hcz22_4, hcz22_5, hfz22_0, hfz22_1, hfz22_2, hfz22_3, hfz22_4, hfz22_5⟩ := bf6_ BK480))
      (go_ret2); (exact ⟨by first | rfl | (simp [*, errW_none, errW_some] <;> rfl), q60_2⟩)
   ·replace c9 := Bool.eq_false_iff.mpr c9
    (subst c9); (have H1 : (some (x2_4, a3)) = some (r1, r2) := by rw [if_neg (show ¬ (false = true) by decide)] at H; exact H); (clear H); (have H := H1); (clear H1); (simp only [Option.some.injEq, Prod.mk.injEq] at H); (obtain ⟨rfl, rfl⟩ := H); (obtain ⟨hcz23_0, hcz23_1, hcz23_2, hcz23_3, hcz23_4, hcz23_5, hfz23_0, hfz23_1, hfz23_2, hfz23_3, hfz23_4, hfz23_5⟩ := bf6_ BK480)
    (go_wp2_with (first | ((with_reducible refine gate_callee (f := 61) rfl ?_); refine goesL_ (some 14) rfl rfl Try.func61 (by kernel_rfl) rfl #[.agg #[.int .u8 a0_0, .int .i64 a0_1, .string a0_2, .string a0_3, .string a0_4, .int .u64 a0_5], .string a1] rfl (by (try simp only [List.map_toArray, List.map_cons, List.map_nil]); first | done | rfl) ?_; (with_reducible refine (catchmentref04_Touches.calls a0_0 a0_1 a0_2 a0_3 a0_4 a0_5 a1 false _ A8.out).mono ?_); rintro e w24 ⟨rfl, hb⟩; refine ⟨_, rfl, ?_⟩; replace BK480 := Aside0.mk (blk_below (q60_1) hb); replace HB := Aside0.mk (below_step (q60_2) hb); (try clear hb); (try clear hb2); (try clear hk); (try clear hi)))); (go_ret2)
    exact ⟨by first | rfl | (simp [*, errW_none, errW_some] <;> rfl), q60_2⟩

end Go.Proofs.Ytnklnjghecmihaa.L2
