-- written by a program of this session (wip/myprint.py), over the kit's printer and the session's own contracts
import Derived.Test.YtpfikmchimlneaaM3x0
import Derived.Test.YtpfikmchimlneaaM3x67
import Derived.Test.YtpfikmchimlneaaM3x68
namespace Go.Proofs.Ytpfikmchimlneaa.M3
open Go.RowKit Go.Proofs.YtpfikmchimlneaaW.PrintWords Go.Proofs.YtpfikmchimlneaaW.PrintLast Go.Proofs.YtpfikmchimlneaaW.PrintMore Go.Proofs.YtpfikmchimlneaaW.Mine
attribute [local go_sem] max2_int min2_int max_two min_two max_three min_three max_four min_four max2_str min2_str binOp_gtr_str binOp_leq_str binOp_geq_str   -- for this text's walks alone
set_option linter.unusedVariables false
set_option linter.unusedSimpArgs false

/-! ### catchmentref05_Named: function 77 -/
def catchmentref05_Named.l0 : Nat → List (S85) → List ByteArray → Int → Option (List ByteArray)
  | 0, _, _, _ => none
  | k + 1, x1, x5, x6 => if x6 < (x1.length : Int) then (if 0 ≤ x6 then ((catchmentref05_Into.f k x5 ((rd_T85 x1 x6).f0)).bind fun t341 => (catchmentref05_Named.l0 k x1 t341 (wrap64 (x6 + 1)))) else (none)) else (some x5)
def catchmentref05_Named.f (k : Nat) (l0 : List (S69)) (l1 : List (S85)) : Option (List ByteArray) := (catchmentref05_Keys.f k l0).bind fun t337 => (catchmentref05_Named.l0 k l1 t337 0)
theorem catchmentref05_Named.mono_l : ∀ k, (∀ y0 y1 y2, LeO (catchmentref05_Named.l0 k y0 y1 y2) (catchmentref05_Named.l0 (k + 1) y0 y1 y2))
  | 0 => fun _ _ _ r h => by simp [catchmentref05_Named.l0] at h
  | k + 1 => by
    have ih0 := catchmentref05_Named.mono_l k
    · intro y0 y1 y2
      unfold catchmentref05_Named.l0
      repeat' first
      | (with_reducible exact ih0 _ _ _)
      | (with_reducible exact catchmentref05_Into.mono _ _ _)
      | (with_reducible exact catchmentref05_Keys.mono _ _)
      | (with_reducible exact LeO.refl _)
      | (with_reducible exact LeO.none _)
      | (with_reducible refine LeO.ite ?_ ?_)
      | (with_reducible refine LeO.bind ?_ (fun _ => ?_))
      | exact ih0 _ _ _
      | exact catchmentref05_Into.mono _ _ _
      | exact catchmentref05_Keys.mono _ _
      | exact LeO.none _
      | refine LeO.ite ?_ ?_
      | refine LeO.bind ?_ (fun _ => ?_)
theorem catchmentref05_Named.mono : ∀ a0 a1 k, LeO (catchmentref05_Named.f k a0 a1) (catchmentref05_Named.f (k + 1) a0 a1) := by
  (intro a0 a1 k); (have ih0 := catchmentref05_Named.mono_l k); (unfold catchmentref05_Named.f)
  repeat' first
      | (with_reducible exact ih0 _ _ _)
      | (with_reducible exact catchmentref05_Into.mono _ _ _)
      | (with_reducible exact catchmentref05_Keys.mono _ _)
      | (with_reducible exact LeO.refl _)
      | (with_reducible exact LeO.none _)
      | (with_reducible refine LeO.ite ?_ ?_)
      | (with_reducible refine LeO.bind ?_ (fun _ => ?_))
      | exact ih0 _ _ _
      | exact catchmentref05_Into.mono _ _ _
      | exact catchmentref05_Keys.mono _ _
      | exact LeO.none _
      | refine LeO.ite ?_ ?_
      | refine LeO.bind ?_ (fun _ => ?_)
set_option maxHeartbeats 8000000 in
set_option maxRecDepth 100000 in
theorem catchmentref05_Named.calls (k : Nat) (A0 : Option Addr) (c0 : Nat) (l0 : List (S69)) (A1 : Option Addr) (c1 : Nat) (l1 : List (S85)) (r : List ByteArray) (w : World) (hr0 : Kd.C k69 w A0 l0.length l0) (hc0 : l0.length ≤ c0) (hr1 : Kd.C k85 w A1 l1.length l1) (hc1 : l1.length ≤ c1) (h : catchmentref05_Named.f k l0 l1 = some r) :
    Calls Try.prog 77 #[.slice A0 l0.length c0, .slice A1 l1.length c1] w fun e w' => ∃ v0_ : Value, e = .returned (v0_) ∧ Kd.R Kd.string 9 w' w.heap.size (fun _ => True) v0_ r ∧ Below w.heap.size w w' := by
  (have HR0 := Aside0.mk hr0); (have HC0 := Aside0.mk hc0); (clear hr0 hc0); (have HR1 := Aside0.mk hr1); (have HC1 := Aside0.mk hc1); (clear hr1 hc1); (have HB := Aside0.mk (Below.refl w.heap.size w)); (have H : ((catchmentref05_Keys.f k l0).bind fun t337 => (catchmentref05_Named.l0 k l1 t337 0)) = some r := h); (clear h); (replace H := Option.bind_eq_some_iff.mp H); (obtain ⟨t337, A30, H⟩ := H); (replace H : (catchmentref05_Named.l0 k l1 t337 0) = some r := H); (have A3 := Aside0.mk A30); (clear A30); (have H' := Aside0.mk H); (clear H); (go_enter Try.func77, Try.ntmps77)
  go_wp2_with (first | ((with_reducible refine gate_callee (f := 106) rfl ?_); refine goesL_ (some 8) rfl rfl Try.func106 (by kernel_rfl) rfl #[.slice A0 l0.length c0] rfl (by (try simp only [List.map_toArray, List.map_cons, List.map_nil]); first | done | rfl | (simp only [List.length_drop, List.length_take]; rfl)) ?_; (with_reducible refine (catchmentref05_Keys.calls k _ _ l0 t337 _ ?side1 ?side2 A3.out).mono ?_); (case side1 => repeat (first | exact HR0.out | (with_reducible refine Kd.C_alloc ?_ _) | (with_reducible refine Kd.C_drewN ?_ _) | (with_reducible refine Kd.C_drew ?_))); (case side2 => exact HC0.out); rintro e w4 ⟨v338, rfl, ho0, hb⟩; refine ⟨_, rfl, ?_⟩; have n0_ := Aside0.mk (Kd.R_lower ho0 (below_size (by repeat (first | (with_reducible first | exact HB.out | apply y1_ | apply y2_ | apply y3_) | exact HB.out)))); have n1_ := Aside0.mk (below_step (by repeat (first | (with_reducible first | exact HB.out | apply y1_ | apply y2_ | apply y3_) | exact HB.out)) hb); clear HB; have HO339 := n0_; have HB := n1_; clear n0_ n1_; (try clear hb); (try clear hb2); (try clear hk); (try clear hi); (try clear ho0)))
  (try simp only [Act.put, List.setIfInBounds_toArray, List.set_cons_zero, List.set_cons_succ])
  go_loopg [5, 6] k (fun kq v5 v6 w' => ∃ (x5_1 : List ByteArray) (x6_1 : Int), v6 = .int .i64 x6_1 ∧ Aside0 (catchmentref05_Named.l0 kq l1 x5_1 x6_1 = some r) ∧ Aside0 (kq ≤ k) ∧ Aside0 (Kd.R Kd.string 9 w' w.heap.size (fun _ => True) v5 x5_1) ∧ Aside0 (Below w.heap.size w w'))
  case atStart => exact ⟨(t337), (0), (by first | rfl | (simp; done) | (simp [*]; done)), H', ⟨Nat.le_refl _⟩, ⟨by (with_reducible repeat (first | apply Kd.R_alloc | apply Kd.R_drewN | apply Kd.R_drew)); exact HO339.out⟩, ⟨by repeat (first | (with_reducible first | exact HB.out | apply y1_ | apply y2_ | apply y3_) | exact HB.out)⟩⟩
  case round =>
    (clear H'); (try clear c1); (try clear p2); (obtain ⟨x5_1, x6_1, rfl, HA, HK1, HO_5, HB⟩ := hrel)
    cases gk with
    | zero => exact absurd HA.out (by simp [catchmentref05_Named.l0])
    | succ k1 =>
      (have H := HA.out); (clear HA); (simp only [catchmentref05_Named.l0] at H); (by_cases c5 : x6_1 < (l1.length : Int))
      · rw [if_pos c5] at H
        (have c5b0 : decide (x6_1 < (l1.length : Int)) = true := decide_eq_true c5); (clear c5); (by_cases c6 : 0 ≤ x6_1)
        · rw [if_pos c6] at H
          (have c6b0 : decide (0 ≤ x6_1) = true := decide_eq_true c6); (clear c6); (replace H := Option.bind_eq_some_iff.mp H); (obtain ⟨t341, A70, H⟩ := H); (replace H : (catchmentref05_Named.l0 k1 l1 t341 (wrap64 (x6_1 + 1))) = some r := H); (have A7 := Aside0.mk A70); (clear A70); (have H' := Aside0.mk H); (clear H); (have p340 : 0 ≤ (x6_1 : Int) := of_decide_eq_true (by first | (with_reducible assumption) | assumption)); (have q340 : x6_1 < (l1.length : Int) := of_decide_eq_true (by first | (with_reducible assumption) | assumption)); (obtain ⟨ad340, e340, hx340_0, hx340_1⟩ := at_T85 HR1.out x6_1 p340 q340); (cases e340); (replace hx340_0 := (HB.out.cell (World.block_lt_of_cell? w _ hx340_0)).trans hx340_0); (replace hx340_1 := (HB.out.cell (World.block_lt_of_cell? w _ hx340_1)).trans hx340_1); (replace p340 := eq_true p340); (replace q340 := eq_true q340); (obtain ⟨Ao8, co8, eo8⟩ := Kd.R_slice HO_5.out); (subst eo8)
          (go_wp2_with (first | ((with_reducible refine gate_callee (f := 107) rfl ?_); refine goesL_ (some 21) rfl rfl Try.func107 (by kernel_rfl) rfl #[.slice Ao8 x5_1.length co8, .string ((rd_T85 l1 x6_1).f0)] rfl (by (try simp only [List.map_toArray, List.map_cons, List.map_nil]); first | done | rfl | (simp only [List.length_drop, List.length_take]; rfl)) ?_; (with_reducible refine (catchmentref05_Into.calls k1 (fun k_ => some k_ = (.slice Ao8 x5_1.length co8 : Value).ownBlock) (.slice Ao8 x5_1.length co8) x5_1 ((rd_T85 l1 x6_1).f0) t341 w _ ?side1 ?side2 A7.out).mono ?_); (case side1 => repeat (first | (with_reducible first | exact HB.out | apply y1_ | apply y2_ | apply y3_) | exact HB.out)); (case side2 => exact Kd.R_tight rfl HO_5.out); rintro e w9 ⟨v342, rfl, ho0, hb, hkp⟩; refine ⟨_, rfl, ?_⟩; have n0_ := Aside0.mk (Kd.R_mono (ok' := fun k_ => True) ho0 (fun k_ hk_ => trivial)); have n1_ := Aside0.mk (hb); clear HB; clear HO_5; have HO343 := n0_; have HB := n1_; clear n0_ n1_; (try clear hb); (try clear hkp); (try clear ho0)))); (go_roundg k1)
          case measure => have := HK1.out; omega
          case rel => exact ⟨(t341), (wrap64 (x6_1 + 1)), (by first | rfl | (simp; done) | (simp [*]; done)), H', ⟨by have := HK1.out; omega⟩, ⟨by (with_reducible repeat (first | apply Kd.R_alloc | apply Kd.R_drewN | apply Kd.R_drew)); exact HO343.out⟩, ⟨by repeat (first | (with_reducible first | exact HB.out | apply y1_ | apply y2_ | apply y3_) | exact HB.out)⟩⟩
        · rw [if_neg c6] at H
          exact absurd H (by simp)
      · rw [if_neg c5] at H
        (have c5b0 : decide (x6_1 < (l1.length : Int)) = false := decide_eq_false c5); (clear c5); (obtain rfl := Option.some.inj H); (go_wp2); (go_ret); (exact ⟨_, by first | rfl | (simp [errW_none, errW_some] <;> rfl) | (simp [*, errW_none, errW_some] <;> rfl), by (with_reducible repeat (first | apply Kd.R_alloc | apply Kd.R_drewN | apply Kd.R_drew)); exact HO_5.out, by repeat (first | (with_reducible first | exact HB.out | apply y1_ | apply y2_ | apply y3_) | exact HB.out)⟩)

end Go.Proofs.Ytpfikmchimlneaa.M3
