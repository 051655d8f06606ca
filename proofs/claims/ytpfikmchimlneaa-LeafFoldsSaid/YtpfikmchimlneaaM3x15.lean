-- written by a program of this session (wip/myprint.py), over the kit's printer and the session's own contracts
import Derived.Test.YtpfikmchimlneaaM3x0
import Derived.Test.YtpfikmchimlneaaM3P0
namespace Go.Proofs.Ytpfikmchimlneaa.M3
open Go.RowKit Go.Proofs.YtpfikmchimlneaaW.PrintWords Go.Proofs.YtpfikmchimlneaaW.PrintLast Go.Proofs.YtpfikmchimlneaaW.PrintMore Go.Proofs.YtpfikmchimlneaaW.Mine
attribute [local go_sem] max2_int min2_int max_two min_two max_three min_three max_four min_four max2_str min2_str binOp_gtr_str binOp_leq_str binOp_geq_str   -- for this text's walks alone
set_option linter.unusedVariables false
set_option linter.unusedSimpArgs false

/-! ### api_Entry_string_112: function 112 -/
def api_Entry_string_112.l0 : Nat → List (S85) → ByteArray → Int → Int → Int → Option (Int × Bool)
  | 0, _, _, _, _, _ => none
  | k + 1, x0, x1, x8, x9, x10 => if x9 < x10 then (if 0 ≤ (wrap64 ((IntKind.u64.wrap (wrap64 (x9 + x10))) / 2)) then (if (wrap64 ((IntKind.u64.wrap (wrap64 (x9 + x10))) / 2)) < (x0.length : Int) then ((block_Place_1.f ((rd_T85 x0 (wrap64 ((IntKind.u64.wrap (wrap64 (x9 + x10))) / 2))).f0) ((rd_T85 x0 (wrap64 ((IntKind.u64.wrap (wrap64 (x9 + x10))) / 2))).f1) x1).bind fun t135 => (if t135 < 0 then (api_Entry_string_112.l0 k x0 x1 x8 (wrap64 ((wrap64 ((IntKind.u64.wrap (wrap64 (x9 + x10))) / 2)) + 1)) x10) else (api_Entry_string_112.l0 k x0 x1 x8 x9 (wrap64 ((IntKind.u64.wrap (wrap64 (x9 + x10))) / 2))))) else (none)) else (none)) else (if x9 < x8 then (if 0 ≤ x9 then (if x9 < (x0.length : Int) then ((block_Place_1.f ((rd_T85 x0 x9).f0) ((rd_T85 x0 x9).f1) x1).bind fun t137 => (some (x9, (t137 == 0)))) else (none)) else (none)) else (some (x9, false)))
def api_Entry_string_112.f (k : Nat) (l0 : List (S85)) (a1 : ByteArray)  : Option (Int × Bool) := api_Entry_string_112.l0 k l0 a1 (l0.length : Int) 0 (l0.length : Int)
theorem api_Entry_string_112.mono_l : ∀ k, (∀ y0 y1 y2 y3 y4, LeO (api_Entry_string_112.l0 k y0 y1 y2 y3 y4) (api_Entry_string_112.l0 (k + 1) y0 y1 y2 y3 y4))
  | 0 => fun _ _ _ _ _ r h => by simp [api_Entry_string_112.l0] at h
  | k + 1 => by
    have ih0 := api_Entry_string_112.mono_l k
    · intro y0 y1 y2 y3 y4
      unfold api_Entry_string_112.l0
      repeat' first
      | (with_reducible exact ih0 _ _ _ _ _)
      | (with_reducible exact LeO.refl _)
      | (with_reducible exact LeO.none _)
      | (with_reducible refine LeO.ite ?_ ?_)
      | (with_reducible refine LeO.bind ?_ (fun _ => ?_))
      | exact ih0 _ _ _ _ _
      | exact LeO.none _
      | refine LeO.ite ?_ ?_
      | refine LeO.bind ?_ (fun _ => ?_)
theorem api_Entry_string_112.mono : ∀ a0 a1 k, LeO (api_Entry_string_112.f k a0 a1) (api_Entry_string_112.f (k + 1) a0 a1) := by
  (intro a0 a1 k); (have ih0 := api_Entry_string_112.mono_l k); (unfold api_Entry_string_112.f)
  repeat' first
      | (with_reducible exact ih0 _ _ _ _ _)
      | (with_reducible exact LeO.refl _)
      | (with_reducible exact LeO.none _)
      | (with_reducible refine LeO.ite ?_ ?_)
      | (with_reducible refine LeO.bind ?_ (fun _ => ?_))
      | exact ih0 _ _ _ _ _
      | exact LeO.none _
      | refine LeO.ite ?_ ?_
      | refine LeO.bind ?_ (fun _ => ?_)
set_option maxHeartbeats 8000000 in
set_option maxRecDepth 100000 in
theorem api_Entry_string_112.calls (k : Nat) (A0 : Option Addr) (c0 : Nat) (l0 : List (S85)) (a1 : ByteArray)  (r1 : Int) (r2 : Bool) (w : World) (hr0 : Kd.C k85 w A0 l0.length l0) (hc0 : l0.length ≤ c0) (h : api_Entry_string_112.f k l0 a1 = some (r1, r2)) :
    Calls Try.prog 112 #[.slice A0 l0.length c0, .string a1, .func (.func 113) #[] #[]] w fun e w' => e = .returned (.tuple #[.int .i64 r1, .bool r2]) ∧ Below w.heap.size w w' := by
  (have hu85 := Try.underlying85); (have HR0 := Aside0.mk hr0); (have HC0 := Aside0.mk hc0); (clear hr0 hc0); (have HB := Aside0.mk (Below.refl w.heap.size w)); (have H : (api_Entry_string_112.l0 k l0 a1 (l0.length : Int) 0 (l0.length : Int)) = some (r1, r2) := h); (clear h); (have H' := Aside0.mk H); (clear H); (go_enter Try.func112, Try.ntmps112); (go_wp2); (go_loopg [9, 10] k (fun kq v9 v10 w' => ∃ (x9_1 : Int) (x10_1 : Int), v9 = .int .i64 x9_1 ∧ v10 = .int .i64 x10_1 ∧ Aside0 (api_Entry_string_112.l0 kq l0 a1 (l0.length : Int) x9_1 x10_1 = some (r1, r2)) ∧ Aside0 (kq ≤ k) ∧ Aside0 (Below w.heap.size w w')))
  case atStart => exact ⟨(0), ((l0.length : Int)), (by first | rfl | (simp; done) | (simp [*]; done)), (by first | rfl | (simp; done) | (simp [*]; done)), H', ⟨Nat.le_refl _⟩, ⟨by repeat (first | (with_reducible first | exact HB.out | apply y1_ | apply y2_ | apply y3_) | exact HB.out)⟩⟩
  case round =>
    (clear H'); (try clear c1); (try clear p2); (obtain ⟨x9_1, x10_1, rfl, rfl, HA, HK1, HB⟩ := hrel)
    cases gk with
    | zero => exact absurd HA.out (by simp [api_Entry_string_112.l0])
    | succ k1 =>
      (have H := HA.out); (clear HA); (simp only [api_Entry_string_112.l0] at H); (by_cases c4 : x9_1 < x10_1)
      · rw [if_pos c4] at H
        (have c4b0 : decide (x9_1 < x10_1) = true := decide_eq_true c4); (clear c4); (obtain ⟨ji5, hji5⟩ : ∃ j_ : Int, (wrap64 ((IntKind.u64.wrap (wrap64 (x9_1 + x10_1))) / 2)) = j_ := ⟨_, rfl⟩); (replace H : (if 0 ≤ (ji5) then (if (ji5) < (l0.length : Int) then ((block_Place_1.f ((rd_T85 l0 (ji5)).f0) ((rd_T85 l0 (ji5)).f1) a1).bind fun t135 => (if t135 < 0 then (api_Entry_string_112.l0 k1 l0 a1 (l0.length : Int) (wrap64 ((ji5) + 1)) x10_1) else (api_Entry_string_112.l0 k1 l0 a1 (l0.length : Int) x9_1 ji5))) else (none)) else (none)) = some (r1, r2) := by first | (rw [hji5] at H; exact H) | (simp only [hji5] at H ⊢; exact H)); (have hji5w : (IntKind.i64.wrap ((IntKind.u64.wrap (wrap64 (x9_1 + x10_1))) / 2)) = ji5 := (i64_w _).trans hji5); (by_cases c6 : 0 ≤ (ji5))
        · rw [if_pos c6] at H
          (have c6b0 : decide (0 ≤ (ji5)) = true := decide_eq_true c6); (clear c6); (by_cases c7 : (ji5) < (l0.length : Int))
          · rw [if_pos c7] at H
            (have c7b0 : decide ((ji5) < (l0.length : Int)) = true := decide_eq_true c7); (clear c7); (replace H := Option.bind_eq_some_iff.mp H); (obtain ⟨t135, A80, H⟩ := H); (replace H : (if t135 < 0 then (api_Entry_string_112.l0 k1 l0 a1 (l0.length : Int) (wrap64 ((ji5) + 1)) x10_1) else (api_Entry_string_112.l0 k1 l0 a1 (l0.length : Int) x9_1 ji5)) = some (r1, r2) := H); (have A8 := Aside0.mk A80); (clear A80); (by_cases c9 : t135 < 0)
            · rw [if_pos c9] at H
              (have c9b0 : decide (t135 < 0) = true := decide_eq_true c9); (clear c9); (have H' := Aside0.mk H); (clear H); (have p134 : 0 ≤ ((ji5) : Int) := of_decide_eq_true (by first | (with_reducible assumption) | assumption)); (have q134 : (ji5) < (l0.length : Int) := of_decide_eq_true (by first | (with_reducible assumption) | assumption)); (obtain ⟨ad134, e134, hx134_0, hx134_1⟩ := at_T85 HR0.out (ji5) p134 q134); (cases e134); (replace hx134_0 := (HB.out.cell (World.block_lt_of_cell? w _ hx134_0)).trans hx134_0); (replace hx134_1 := (HB.out.cell (World.block_lt_of_cell? w _ hx134_1)).trans hx134_1); (replace p134 := eq_true p134); (replace q134 := eq_true q134)
              (go_wp2_with (first | (go_at_call 113; (refine (block_Place_1.calls ((rd_T85 l0 (ji5)).f0) ((rd_T85 l0 (ji5)).f1) a1 t135 _ A8.out).mono ?_); rintro e w10 ⟨rfl, hb⟩; have n0_ := Aside0.mk (below_step (by repeat (first | (with_reducible first | exact HB.out | apply y1_ | apply y2_ | apply y3_) | exact HB.out)) hb); clear HB; have HB := n0_; clear n0_; (try clear hb); (try clear hb2); (try clear hk); (try clear hi)))); (go_roundg k1)
              case measure => have := HK1.out; omega
              case rel => exact ⟨(wrap64 ((ji5) + 1)), (x10_1), (by first | rfl | (simp; done) | (simp only [← hji5] <;> (first | rfl | simp)) | (simp [*]; done)), (by first | rfl | (simp; done) | (simp [*]; done)), H', ⟨by have := HK1.out; omega⟩, ⟨by repeat (first | (with_reducible first | exact HB.out | apply y1_ | apply y2_ | apply y3_) | exact HB.out)⟩⟩
            · rw [if_neg c9] at H
              (have c9b0 : decide (t135 < 0) = false := decide_eq_false c9); (clear c9); (have H' := Aside0.mk H); (clear H); (have p134 : 0 ≤ ((ji5) : Int) := of_decide_eq_true (by first | (with_reducible assumption) | assumption)); (have q134 : (ji5) < (l0.length : Int) := of_decide_eq_true (by first | (with_reducible assumption) | assumption)); (obtain ⟨ad134, e134, hx134_0, hx134_1⟩ := at_T85 HR0.out (ji5) p134 q134); (cases e134); (replace hx134_0 := (HB.out.cell (World.block_lt_of_cell? w _ hx134_0)).trans hx134_0); (replace hx134_1 := (HB.out.cell (World.block_lt_of_cell? w _ hx134_1)).trans hx134_1); (replace p134 := eq_true p134); (replace q134 := eq_true q134)
              (go_wp2_with (first | (go_at_call 113; (refine (block_Place_1.calls ((rd_T85 l0 (ji5)).f0) ((rd_T85 l0 (ji5)).f1) a1 t135 _ A8.out).mono ?_); rintro e w11 ⟨rfl, hb⟩; have n0_ := Aside0.mk (below_step (by repeat (first | (with_reducible first | exact HB.out | apply y1_ | apply y2_ | apply y3_) | exact HB.out)) hb); clear HB; have HB := n0_; clear n0_; (try clear hb); (try clear hb2); (try clear hk); (try clear hi)))); (go_roundg k1)
              case measure => have := HK1.out; omega
              case rel => exact ⟨(x9_1), (ji5), (by first | rfl | (simp; done) | (simp [*]; done)), (by first | rfl | (simp; done) | (simp only [← hji5] <;> (first | rfl | simp)) | (simp [*]; done)), H', ⟨by have := HK1.out; omega⟩, ⟨by repeat (first | (with_reducible first | exact HB.out | apply y1_ | apply y2_ | apply y3_) | exact HB.out)⟩⟩
          · rw [if_neg c7] at H
            exact absurd H (by simp)
        · rw [if_neg c6] at H
          exact absurd H (by simp)
      · rw [if_neg c4] at H
        (have c4b0 : decide (x9_1 < x10_1) = false := decide_eq_false c4); (clear c4); (by_cases c12 : x9_1 < (l0.length : Int))
        · rw [if_pos c12] at H
          (have c12b0 : decide (x9_1 < (l0.length : Int)) = true := decide_eq_true c12); (clear c12); (by_cases c13 : 0 ≤ x9_1)
          · rw [if_pos c13] at H
            (have c13b0 : decide (0 ≤ x9_1) = true := decide_eq_true c13); (clear c13); (by_cases c14 : x9_1 < (l0.length : Int))
            · rw [if_pos c14] at H
              (have c14b0 : decide (x9_1 < (l0.length : Int)) = true := decide_eq_true c14); (clear c14); (replace H := Option.bind_eq_some_iff.mp H); (obtain ⟨t137, A150, H⟩ := H); (replace H : (some (x9_1, (t137 == 0))) = some (r1, r2) := H); (have A15 := Aside0.mk A150); (clear A150); (simp only [Option.some.injEq, Prod.mk.injEq] at H); (obtain ⟨rfl, rfl⟩ := H); (have p136 : 0 ≤ (x9_1 : Int) := of_decide_eq_true (by first | (with_reducible assumption) | assumption)); (have q136 : x9_1 < (l0.length : Int) := of_decide_eq_true (by first | (with_reducible assumption) | assumption)); (obtain ⟨ad136, e136, hx136_0, hx136_1⟩ := at_T85 HR0.out x9_1 p136 q136); (cases e136); (replace hx136_0 := (HB.out.cell (World.block_lt_of_cell? w _ hx136_0)).trans hx136_0); (replace hx136_1 := (HB.out.cell (World.block_lt_of_cell? w _ hx136_1)).trans hx136_1); (replace p136 := eq_true p136); (replace q136 := eq_true q136)
              (go_wp2_with (first | (go_at_call 113; (with_reducible refine (block_Place_1.calls ((rd_T85 l0 x9_1).f0) ((rd_T85 l0 x9_1).f1) a1 t137 _ A15.out).mono ?_); rintro e w16 ⟨rfl, hb⟩; have n0_ := Aside0.mk (below_step (by repeat (first | (with_reducible first | exact HB.out | apply y1_ | apply y2_ | apply y3_) | exact HB.out)) hb); clear HB; have HB := n0_; clear n0_; (try clear hb); (try clear hb2); (try clear hk); (try clear hi)))); (go_ret2); (exact ⟨by first | rfl | (simp [errW_none, errW_some] <;> rfl) | (simp [*, errW_none, errW_some] <;> rfl), by repeat (first | (with_reducible first | exact HB.out | apply y1_ | apply y2_ | apply y3_) | exact HB.out)⟩)
            · rw [if_neg c14] at H
              exact absurd H (by simp)
          · rw [if_neg c13] at H
            exact absurd H (by simp)
        · rw [if_neg c12] at H
          (have c12b0 : decide (x9_1 < (l0.length : Int)) = false := decide_eq_false c12); (clear c12); (simp only [Option.some.injEq, Prod.mk.injEq] at H); (obtain ⟨rfl, rfl⟩ := H); (go_wp2); (go_ret2); (exact ⟨by first | rfl | (simp [errW_none, errW_some] <;> rfl) | (simp [*, errW_none, errW_some] <;> rfl), by repeat (first | (with_reducible first | exact HB.out | apply y1_ | apply y2_ | apply y3_) | exact HB.out)⟩)

end Go.Proofs.Ytpfikmchimlneaa.M3
