-- written by a program of this session (wip/myprint.py), over the kit's printer and the session's own contracts
import Derived.Test.YtpfikmchimlneaaM3x0
import Derived.Test.YtpfikmchimlneaaM3x4
import Derived.Test.YtpfikmchimlneaaM3P0
namespace Go.Proofs.Ytpfikmchimlneaa.M3
open Go.RowKit Go.Proofs.YtpfikmchimlneaaW.PrintWords Go.Proofs.YtpfikmchimlneaaW.PrintLast Go.Proofs.YtpfikmchimlneaaW.PrintMore Go.Proofs.YtpfikmchimlneaaW.Mine
attribute [local go_sem] max2_int min2_int max_two min_two max_three min_three max_four min_four max2_str min2_str binOp_gtr_str binOp_leq_str binOp_geq_str   -- for this text's walks alone
set_option linter.unusedVariables false
set_option linter.unusedSimpArgs false

/-! ### catchmentref11_Row: function 29 -/
def catchmentref11_Row.l0 : Nat → List (List (S85)) → Int → Option (Bool)
  | 0, _, _ => none
  | k + 1, x0, x3 => if x3 < (x0.length : Int) then (if 0 ≤ x3 then (if ((rd_L2 x0 x3).length : Int) = 0 then (some false) else (catchmentref11_Row.l0 k x0 (wrap64 (x3 + 1)))) else (none)) else ((catchmentref11_Entries.f k x0).bind fun t127 => ((catchmentref05_Rises.f k t127).bind fun t130 => (some t130)))
def catchmentref11_Row.f (k : Nat) (l0 : List (List (S85))) : Option (Bool) := catchmentref11_Row.l0 k l0 0
theorem catchmentref11_Row.mono_l : ∀ k, (∀ y0 y1, LeO (catchmentref11_Row.l0 k y0 y1) (catchmentref11_Row.l0 (k + 1) y0 y1))
  | 0 => fun _ _ r h => by simp [catchmentref11_Row.l0] at h
  | k + 1 => by
    have ih0 := catchmentref11_Row.mono_l k
    · intro y0 y1
      unfold catchmentref11_Row.l0
      repeat' first
      | (with_reducible exact ih0 _ _)
      | (with_reducible exact catchmentref05_Rises.mono _ _)
      | (with_reducible exact catchmentref11_Entries.mono _ _)
      | (with_reducible exact LeO.refl _)
      | (with_reducible exact LeO.none _)
      | (with_reducible refine LeO.ite ?_ ?_)
      | (with_reducible refine LeO.bind ?_ (fun _ => ?_))
      | exact ih0 _ _
      | exact catchmentref05_Rises.mono _ _
      | exact catchmentref11_Entries.mono _ _
      | exact LeO.none _
      | refine LeO.ite ?_ ?_
      | refine LeO.bind ?_ (fun _ => ?_)
theorem catchmentref11_Row.mono : ∀ a0 k, LeO (catchmentref11_Row.f k a0) (catchmentref11_Row.f (k + 1) a0) := by
  (intro a0 k); (have ih0 := catchmentref11_Row.mono_l k); (unfold catchmentref11_Row.f)
  repeat' first
      | (with_reducible exact ih0 _ _)
      | (with_reducible exact catchmentref05_Rises.mono _ _)
      | (with_reducible exact catchmentref11_Entries.mono _ _)
      | (with_reducible exact LeO.refl _)
      | (with_reducible exact LeO.none _)
      | (with_reducible refine LeO.ite ?_ ?_)
      | (with_reducible refine LeO.bind ?_ (fun _ => ?_))
      | exact ih0 _ _
      | exact catchmentref05_Rises.mono _ _
      | exact catchmentref11_Entries.mono _ _
      | exact LeO.none _
      | refine LeO.ite ?_ ?_
      | refine LeO.bind ?_ (fun _ => ?_)
set_option maxHeartbeats 8000000 in
set_option maxRecDepth 100000 in
theorem catchmentref11_Row.calls (k : Nat) (A0 : Option Addr) (c0 : Nat) (l0 : List (List (S85))) (r : Bool) (w : World) (hr0 : Kd.C (Kd.slice 85 k85) w A0 l0.length l0) (hc0 : l0.length ≤ c0) (h : catchmentref11_Row.f k l0 = some r) :
    Calls Try.prog 29 #[.slice A0 l0.length c0] w fun e w' => e = .returned (.bool r) ∧ Below w.heap.size w w' := by
  (have HR0 := Aside0.mk hr0); (have HC0 := Aside0.mk hc0); (clear hr0 hc0); (have HB := Aside0.mk (Below.refl w.heap.size w)); (have H : (catchmentref11_Row.l0 k l0 0) = some r := h); (clear h); (have H' := Aside0.mk H); (clear H); (go_enter Try.func29, Try.ntmps29); (go_wp2); (go_loopg [3] k (fun kq v3 w' => ∃ (x3_1 : Int), v3 = .int .i64 x3_1 ∧ Aside0 (catchmentref11_Row.l0 kq l0 x3_1 = some r) ∧ Aside0 (kq ≤ k) ∧ Aside0 (Below w.heap.size w w')))
  case atStart => exact ⟨(0), (by first | rfl | (simp; done) | (simp [*]; done)), H', ⟨Nat.le_refl _⟩, ⟨by repeat (first | (with_reducible first | exact HB.out | apply y1_ | apply y2_ | apply y3_) | exact HB.out)⟩⟩
  case round =>
    (clear H'); (obtain ⟨x3_1, rfl, HA, HK1, HB⟩ := hrel)
    cases gk with
    | zero => exact absurd HA.out (by simp [catchmentref11_Row.l0])
    | succ k1 =>
      (have H := HA.out); (clear HA); (simp only [catchmentref11_Row.l0] at H); (by_cases c2 : x3_1 < (l0.length : Int))
      · rw [if_pos c2] at H
        (have c2b0 : decide (x3_1 < (l0.length : Int)) = true := decide_eq_true c2); (clear c2); (by_cases c3 : 0 ≤ x3_1)
        · rw [if_pos c3] at H
          (have c3b0 : decide (0 ≤ x3_1) = true := decide_eq_true c3); (clear c3); (by_cases c4 : ((rd_L2 l0 x3_1).length : Int) = 0)
          · rw [if_pos c4] at H
            (have c4b0 : (((rd_L2 l0 x3_1).length : Int) == 0) = true := beq_iff_eq.mpr c4); (have c4b1 : (((rd_L2 l0 x3_1).length : Int) != 0) = false := bne_eq_false_iff_eq.mpr c4); (clear c4); (obtain rfl := Option.some.inj H); (have p126 : 0 ≤ (x3_1 : Int) := of_decide_eq_true (by first | (with_reducible assumption) | assumption)); (have q126 : x3_1 < (l0.length : Int) := of_decide_eq_true (by first | (with_reducible assumption) | assumption)); (obtain ⟨ad126, A126_0, c126_0, e126, hx126_0, hl126_0, hi126_0⟩ := at_L2 HR0.out x3_1 p126 q126); (cases e126); (replace hx126_0 := (HB.out.cell (World.block_lt_of_cell? w _ hx126_0)).trans hx126_0); (have HR126_0 := Aside0.mk hi126_0); (have HC126_0 := Aside0.mk hl126_0); (clear hi126_0 hl126_0); (replace p126 := eq_true p126); (replace q126 := eq_true q126); (go_wp2); (go_ret); (exact ⟨by first | rfl | (simp [errW_none, errW_some] <;> rfl) | (simp [*, errW_none, errW_some] <;> rfl), by repeat (first | (with_reducible first | exact HB.out | apply y1_ | apply y2_ | apply y3_) | exact HB.out)⟩)
          · rw [if_neg c4] at H
            (have c4b0 : (((rd_L2 l0 x3_1).length : Int) == 0) = false := beq_eq_false_iff_ne.mpr c4); (have c4b1 : (((rd_L2 l0 x3_1).length : Int) != 0) = true := bne_iff_ne.mpr c4); (have c4b2 : ¬ ((rd_L2 l0 x3_1) = []) := fun h_ => c4 (by rw [h_]; rfl)); (have H' := Aside0.mk H); (clear H); (have p126 : 0 ≤ (x3_1 : Int) := of_decide_eq_true (by first | (with_reducible assumption) | assumption)); (have q126 : x3_1 < (l0.length : Int) := of_decide_eq_true (by first | (with_reducible assumption) | assumption)); (obtain ⟨ad126, A126_0, c126_0, e126, hx126_0, hl126_0, hi126_0⟩ := at_L2 HR0.out x3_1 p126 q126); (cases e126); (replace hx126_0 := (HB.out.cell (World.block_lt_of_cell? w _ hx126_0)).trans hx126_0); (have HR126_0 := Aside0.mk hi126_0); (have HC126_0 := Aside0.mk hl126_0); (clear hi126_0 hl126_0); (replace p126 := eq_true p126); (replace q126 := eq_true q126); (go_wp2); (go_roundg k1)
            case measure => have := HK1.out; omega
            case rel => exact ⟨(wrap64 (x3_1 + 1)), (by first | rfl | (simp; done) | (simp [*]; done)), H', ⟨by have := HK1.out; omega⟩, ⟨by repeat (first | (with_reducible first | exact HB.out | apply y1_ | apply y2_ | apply y3_) | exact HB.out)⟩⟩
        · rw [if_neg c3] at H
          exact absurd H (by simp)
      · rw [if_neg c2] at H
        (have c2b0 : decide (x3_1 < (l0.length : Int)) = false := decide_eq_false c2); (clear c2); (replace H := Option.bind_eq_some_iff.mp H); (obtain ⟨t127, A50, H⟩ := H); (replace H : ((catchmentref05_Rises.f k1 t127).bind fun t130 => (some t130)) = some r := H); (have A5 := Aside0.mk A50); (clear A50); (replace H := Option.bind_eq_some_iff.mp H); (obtain ⟨t130, A60, H⟩ := H); (replace H : (some t130) = some r := H); (have A6 := Aside0.mk A60); (clear A60); (obtain rfl := Option.some.inj H)
        go_wp2_with (first | ((with_reducible refine gate_callee (f := 40) rfl ?_); refine goesL_ (some 17) rfl rfl Try.func40 (by kernel_rfl) rfl #[.slice A0 l0.length c0] rfl (by (try simp only [List.map_toArray, List.map_cons, List.map_nil]); first | done | rfl | (simp only [List.length_drop, List.length_take]; rfl)) ?_; (with_reducible refine (catchmentref11_Entries.calls k1 _ _ l0 t127 _ ?side1 ?side2 A5.out).mono ?_); (case side1 => repeat (first | exact (Kd.C_below HR0.out HB.out) | (with_reducible refine Kd.C_alloc ?_ _) | (with_reducible refine Kd.C_drewN ?_ _) | (with_reducible refine Kd.C_drew ?_))); (case side2 => exact HC0.out); rintro e w7 ⟨v128, rfl, ho0, hb⟩; refine ⟨_, rfl, ?_⟩; have n0_ := Aside0.mk (Kd.R_lower ho0 (below_size (by repeat (first | (with_reducible first | exact HB.out | apply y1_ | apply y2_ | apply y3_) | exact HB.out)))); have n1_ := Aside0.mk (below_step (by repeat (first | (with_reducible first | exact HB.out | apply y1_ | apply y2_ | apply y3_) | exact HB.out)) hb); clear HB; have HO129 := n0_; have HB := n1_; clear n0_ n1_; (try clear hb); (try clear hb2); (try clear hk); (try clear hi); (try clear ho0); obtain ⟨Ao8, co8, eo8⟩ := Kd.R_slice HO129.out; subst eo8) | ((with_reducible refine gate_callee (f := 46) rfl ?_); refine goesL_ (some 18) rfl rfl Try.func46 (by kernel_rfl) rfl #[.slice Ao8 t127.length co8] rfl (by (try simp only [List.map_toArray, List.map_cons, List.map_nil]); first | done | rfl | (simp only [List.length_drop, List.length_take]; rfl)) ?_; (with_reducible refine (catchmentref05_Rises.calls k1 _ _ t127 t130 _ ?side1 ?side2 A6.out).mono ?_); (case side1 => repeat (first | exact (Kd.R_reads' HO129.out).2.2 | (with_reducible refine Kd.C_alloc ?_ _) | (with_reducible refine Kd.C_drewN ?_ _) | (with_reducible refine Kd.C_drew ?_))); (case side2 => exact (Kd.R_reads' HO129.out).2.1); rintro e w' ⟨rfl, ⟨nd, rfl⟩⟩; refine ⟨_, rfl, ?_⟩))
        (go_ret); (exact ⟨by first | rfl | (simp [errW_none, errW_some] <;> rfl) | (simp [*, errW_none, errW_some] <;> rfl), by repeat (first | (with_reducible first | exact HB.out | apply y1_ | apply y2_ | apply y3_) | exact HB.out)⟩)

end Go.Proofs.Ytpfikmchimlneaa.M3
