-- written by a program of this session (wip/myprint.py), over the kit's printer and the session's own contracts
import Derived.Test.YtpfikmchimlneaaM3x0
import Derived.Test.YtpfikmchimlneaaM3x74
namespace Go.Proofs.Ytpfikmchimlneaa.M3
open Go.RowKit Go.Proofs.YtpfikmchimlneaaW.PrintWords Go.Proofs.YtpfikmchimlneaaW.PrintLast Go.Proofs.YtpfikmchimlneaaW.PrintMore Go.Proofs.YtpfikmchimlneaaW.Mine
attribute [local go_sem] max2_int min2_int max_two min_two max_three min_three max_four min_four max2_str min2_str binOp_gtr_str binOp_leq_str binOp_geq_str   -- for this text's walks alone
set_option linter.unusedVariables false
set_option linter.unusedSimpArgs false

/-! ### catchmentref05_Value: function 78 -/
mutual
def catchmentref05_Value.j0 : Nat → List (S69) → ByteArray → ByteArray → Bool → Option (ByteArray × Bool)
  | 0, _, _, _, _ => none
  | k + 1, x0, x1, x2, x3 => catchmentref05_Value.l0 k x0 x1 x2 x3 0
def catchmentref05_Value.l0 : Nat → List (S69) → ByteArray → ByteArray → Bool → Int → Option (ByteArray × Bool)
  | 0, _, _, _, _, _ => none
  | k + 1, x0, x1, x2, x3, x10 => if x10 < (x0.length : Int) then (if 0 ≤ x10 then ((catchmentref04_On.f k ((rd_T69 x0 x10).f0) ((rd_T69 x0 x10).f1) ((rd_T69 x0 x10).f2) ((rd_T69 x0 x10).f3) ((rd_T69 x0 x10).f4) ((rd_T69 x0 x10).f5) x1 x2 x3).bind fun bt357 => (catchmentref05_Value.l0 k x0 x1 bt357.1 bt357.2 (wrap64 (x10 + 1)))) else (none)) else (some (x2, x3))
end
def catchmentref05_Value.f (k : Nat) (l0 : List (S69)) (a1 : ByteArray) (a2 : ByteArray) (a3 : Bool) : Option (ByteArray × Bool) := if a3 = true then (catchmentref05_Value.j0 k l0 a1 a2 a3) else (catchmentref05_Value.j0 k l0 a1 (⟨#[]⟩ : ByteArray) a3)
theorem catchmentref05_Value.mono_l : ∀ k, (∀ y0 y1 y2 y3, LeO (catchmentref05_Value.j0 k y0 y1 y2 y3) (catchmentref05_Value.j0 (k + 1) y0 y1 y2 y3)) ∧ (∀ y0 y1 y2 y3 y4, LeO (catchmentref05_Value.l0 k y0 y1 y2 y3 y4) (catchmentref05_Value.l0 (k + 1) y0 y1 y2 y3 y4))
  | 0 => ⟨fun _ _ _ _ r h => by simp [catchmentref05_Value.j0] at h, fun _ _ _ _ _ r h => by simp [catchmentref05_Value.l0] at h⟩
  | k + 1 => by
    obtain ⟨ih0, ih1⟩ := catchmentref05_Value.mono_l k
    refine ⟨?_, ?_⟩
    · intro y0 y1 y2 y3
      unfold catchmentref05_Value.j0
      repeat' first
      | (with_reducible exact ih0 _ _ _ _)
      | (with_reducible exact ih1 _ _ _ _ _)
      | (with_reducible exact catchmentref04_On.mono _ _ _ _ _ _ _ _ _ _)
      | (with_reducible exact LeO.refl _)
      | (with_reducible exact LeO.none _)
      | (with_reducible refine LeO.ite ?_ ?_)
      | (with_reducible refine LeO.bind ?_ (fun _ => ?_))
      | exact ih0 _ _ _ _
      | exact ih1 _ _ _ _ _
      | exact catchmentref04_On.mono _ _ _ _ _ _ _ _ _ _
      | exact LeO.none _
      | refine LeO.ite ?_ ?_
      | refine LeO.bind ?_ (fun _ => ?_)
    · intro y0 y1 y2 y3 y4
      unfold catchmentref05_Value.l0
      repeat' first
      | (with_reducible exact ih0 _ _ _ _)
      | (with_reducible exact ih1 _ _ _ _ _)
      | (with_reducible exact catchmentref04_On.mono _ _ _ _ _ _ _ _ _ _)
      | (with_reducible exact LeO.refl _)
      | (with_reducible exact LeO.none _)
      | (with_reducible refine LeO.ite ?_ ?_)
      | (with_reducible refine LeO.bind ?_ (fun _ => ?_))
      | exact ih0 _ _ _ _
      | exact ih1 _ _ _ _ _
      | exact catchmentref04_On.mono _ _ _ _ _ _ _ _ _ _
      | exact LeO.none _
      | refine LeO.ite ?_ ?_
      | refine LeO.bind ?_ (fun _ => ?_)
theorem catchmentref05_Value.mono : ∀ a0 a1 a2 a3 k, LeO (catchmentref05_Value.f k a0 a1 a2 a3) (catchmentref05_Value.f (k + 1) a0 a1 a2 a3) := by
  (intro a0 a1 a2 a3 k); (obtain ⟨ih0, ih1⟩ := catchmentref05_Value.mono_l k); (unfold catchmentref05_Value.f)
  repeat' first
      | (with_reducible exact ih0 _ _ _ _)
      | (with_reducible exact ih1 _ _ _ _ _)
      | (with_reducible exact catchmentref04_On.mono _ _ _ _ _ _ _ _ _ _)
      | (with_reducible exact LeO.refl _)
      | (with_reducible exact LeO.none _)
      | (with_reducible refine LeO.ite ?_ ?_)
      | (with_reducible refine LeO.bind ?_ (fun _ => ?_))
      | exact ih0 _ _ _ _
      | exact ih1 _ _ _ _ _
      | exact catchmentref04_On.mono _ _ _ _ _ _ _ _ _ _
      | exact LeO.none _
      | refine LeO.ite ?_ ?_
      | refine LeO.bind ?_ (fun _ => ?_)
set_option maxHeartbeats 8000000 in
set_option maxRecDepth 100000 in
theorem catchmentref05_Value.calls (k : Nat) (A0 : Option Addr) (c0 : Nat) (l0 : List (S69)) (a1 : ByteArray) (a2 : ByteArray) (a3 : Bool) (r1 : ByteArray) (r2 : Bool) (w : World) (hr0 : Kd.C k69 w A0 l0.length l0) (hc0 : l0.length ≤ c0) (h : catchmentref05_Value.f k l0 a1 a2 a3 = some (r1, r2)) :
    Calls Try.prog 78 #[.slice A0 l0.length c0, .string a1, .string a2, .bool a3] w fun e w' => e = .returned (.tuple #[.string r1, .bool r2]) ∧ Below w.heap.size w w' := by
  (have hu69 := Try.underlying69); (have HR0 := Aside0.mk hr0); (have HC0 := Aside0.mk hc0); (clear hr0 hc0); (have HB := Aside0.mk (Below.refl w.heap.size w)); (have H : (if a3 = true then (catchmentref05_Value.j0 k l0 a1 a2 a3) else (catchmentref05_Value.j0 k l0 a1 (⟨#[]⟩ : ByteArray) a3)) = some (r1, r2) := h); (clear h); (have HC5 := Aside0.mk H); (clear H); (go_enter Try.func78, Try.ntmps78); (go_upto_if 12 with (fail)); (go_cut [2] (fun v2 wc => ∃ (kq : Nat) (x2_4 : ByteArray), v2 = .string x2_4 ∧ Aside0 (catchmentref05_Value.j0 kq l0 a1 x2_4 a3 = some (r1, r2)) ∧ Aside0 (kq ≤ k) ∧ Aside0 (Below w.heap.size w wc)))
  case first =>
    (have H := HC5.out); (clear HC5); (by_cases c6 : a3 = true)
    · subst c6
      (have H1 : (catchmentref05_Value.j0 k l0 a1 a2 true) = some (r1, r2) := by rw [if_pos rfl] at H; exact H); (clear H); (have H := H1); (clear H1); (have H' := Aside0.mk H); (clear H); (go_wp2); (go_meet)
      case rel => exact ⟨_, (a2), (by first | rfl | (simp; done) | (simp [*]; done)), H', ⟨by first | omega | exact Nat.le_refl _⟩, ⟨by repeat (first | (with_reducible first | exact HB.out | apply y1_ | apply y2_ | apply y3_) | exact HB.out)⟩⟩
    · replace c6 := Bool.eq_false_iff.mpr c6
      (subst c6); (have H1 : (catchmentref05_Value.j0 k l0 a1 (⟨#[]⟩ : ByteArray) false) = some (r1, r2) := by rw [if_neg (show ¬ (false = true) by decide)] at H; exact H); (clear H); (have H := H1); (clear H1); (have H' := Aside0.mk H); (clear H); (go_wp2); (go_meet)
      case rel => exact ⟨_, ((⟨#[]⟩ : ByteArray)), (by first | rfl | (simp; done) | (simp [*]; done)), H', ⟨by first | omega | exact Nat.le_refl _⟩, ⟨by repeat (first | (with_reducible first | exact HB.out | apply y1_ | apply y2_ | apply y3_) | exact HB.out)⟩⟩
  case rest =>
    (clear HC5); (try clear p2); (try clear c6); (obtain ⟨kq, x2_4, rfl, HA, HJ4, HB⟩ := hcut)
    cases kq with
    | zero => exact absurd HA.out (by simp [catchmentref05_Value.j0])
    | succ kj4 =>
      (have H := HA.out); (clear HA); (simp only [catchmentref05_Value.j0] at H); (have H' := Aside0.mk H); (clear H); (go_wp2); (go_loopg [2, 3, 10] kj4 (fun kq v2 v3 v10 w' => ∃ (x2_2 : ByteArray) (x3_2 : Bool) (x10_2 : Int), v2 = .string x2_2 ∧ v3 = .bool x3_2 ∧ v10 = .int .i64 x10_2 ∧ Aside0 (catchmentref05_Value.l0 kq l0 a1 x2_2 x3_2 x10_2 = some (r1, r2)) ∧ Aside0 (kq ≤ kj4) ∧ Aside0 (Below w.heap.size w w')))
      case atStart => exact ⟨(x2_4), (a3), (0), (by first | rfl | (simp; done) | (simp [*]; done)), (by first | rfl | (simp; done) | (simp [*]; done)), (by first | rfl | (simp; done) | (simp [*]; done)), H', ⟨Nat.le_refl _⟩, ⟨by repeat (first | (with_reducible first | exact HB.out | apply y1_ | apply y2_ | apply y3_) | exact HB.out)⟩⟩
      case round =>
        (clear H'); (try clear p2); (try clear c6); (try clear p2); (obtain ⟨x2_2, x3_2, x10_2, rfl, rfl, rfl, HA, HK2, HB⟩ := hrel)
        cases gk with
        | zero => exact absurd HA.out (by simp [catchmentref05_Value.l0])
        | succ k2 =>
          (have H := HA.out); (clear HA); (simp only [catchmentref05_Value.l0] at H); (by_cases c7 : x10_2 < (l0.length : Int))
          · rw [if_pos c7] at H
            (have c7b0 : decide (x10_2 < (l0.length : Int)) = true := decide_eq_true c7); (clear c7); (by_cases c8 : 0 ≤ x10_2)
            · rw [if_pos c8] at H
              (have c8b0 : decide (0 ≤ x10_2) = true := decide_eq_true c8); (clear c8); (replace H := Option.bind_eq_some_iff.mp H); (obtain ⟨⟨t357, t358⟩, A90, H⟩ := H); (replace H : (catchmentref05_Value.l0 k2 l0 a1 t357 t358 (wrap64 (x10_2 + 1))) = some (r1, r2) := H); (have A9 := Aside0.mk A90); (clear A90); (have H' := Aside0.mk H); (clear H); (have p356 : 0 ≤ (x10_2 : Int) := of_decide_eq_true (by first | (with_reducible assumption) | assumption)); (have q356 : x10_2 < (l0.length : Int) := of_decide_eq_true (by first | (with_reducible assumption) | assumption)); (obtain ⟨ad356, e356, hx356_0, hx356_1, hx356_2, hx356_3, hx356_4, hx356_5⟩ := at_T69 HR0.out x10_2 p356 q356); (cases e356); (replace hx356_0 := (HB.out.cell (World.block_lt_of_cell? w _ hx356_0)).trans hx356_0); (replace hx356_1 := (HB.out.cell (World.block_lt_of_cell? w _ hx356_1)).trans hx356_1); (replace hx356_2 := (HB.out.cell (World.block_lt_of_cell? w _ hx356_2)).trans hx356_2); (replace hx356_3 := (HB.out.cell (World.block_lt_of_cell? w _ hx356_3)).trans hx356_3); (replace hx356_4 := (HB.out.cell (World.block_lt_of_cell? w _ hx356_4)).trans hx356_4)
              (replace hx356_5 := (HB.out.cell (World.block_lt_of_cell? w _ hx356_5)).trans hx356_5); (replace p356 := eq_true p356); (replace q356 := eq_true q356)
              (go_wp2_with (first | ((with_reducible refine gate_callee (f := 108) rfl ?_); refine goesL_ (some 27) rfl rfl Try.func108 (by kernel_rfl) rfl #[.agg #[.int .u8 ((rd_T69 l0 x10_2).f0), .int .i64 ((rd_T69 l0 x10_2).f1), .string ((rd_T69 l0 x10_2).f2), .string ((rd_T69 l0 x10_2).f3), .string ((rd_T69 l0 x10_2).f4), .int .u64 ((rd_T69 l0 x10_2).f5)], .string a1, .string x2_2, .bool x3_2] rfl (by (try simp only [List.map_toArray, List.map_cons, List.map_nil]); first | done | rfl | (simp only [List.length_drop, List.length_take]; rfl)) ?_; (with_reducible refine (catchmentref04_On.calls k2 ((rd_T69 l0 x10_2).f0) ((rd_T69 l0 x10_2).f1) ((rd_T69 l0 x10_2).f2) ((rd_T69 l0 x10_2).f3) ((rd_T69 l0 x10_2).f4) ((rd_T69 l0 x10_2).f5) a1 x2_2 x3_2 t357 t358 _ A9.out).mono ?_); rintro e w10 ⟨rfl, hb⟩; refine ⟨_, rfl, ?_⟩; have n0_ := Aside0.mk (below_step (by repeat (first | (with_reducible first | exact HB.out | apply y1_ | apply y2_ | apply y3_) | exact HB.out)) hb); clear HB; have HB := n0_; clear n0_; (try clear hb); (try clear hb2); (try clear hk); (try clear hi)))); (go_roundg k2)
              case measure => have := HJ4.out; have := HK2.out; omega
              case rel => exact ⟨(t357), (t358), (wrap64 (x10_2 + 1)), (by first | rfl | (simp; done) | (simp [*]; done)), (by first | rfl | (simp; done) | (simp [*]; done)), (by first | rfl | (simp; done) | (simp [*]; done)), H', ⟨by have := HJ4.out; have := HK2.out; omega⟩, ⟨by repeat (first | (with_reducible first | exact HB.out | apply y1_ | apply y2_ | apply y3_) | exact HB.out)⟩⟩
            · rw [if_neg c8] at H
              exact absurd H (by simp)
          · rw [if_neg c7] at H
            (have c7b0 : decide (x10_2 < (l0.length : Int)) = false := decide_eq_false c7); (clear c7); (simp only [Option.some.injEq, Prod.mk.injEq] at H); (obtain ⟨rfl, rfl⟩ := H); (go_wp2); (go_ret2); (exact ⟨by first | rfl | (simp [errW_none, errW_some] <;> rfl) | (simp [*, errW_none, errW_some] <;> rfl), by repeat (first | (with_reducible first | exact HB.out | apply y1_ | apply y2_ | apply y3_) | exact HB.out)⟩)

end Go.Proofs.Ytpfikmchimlneaa.M3
