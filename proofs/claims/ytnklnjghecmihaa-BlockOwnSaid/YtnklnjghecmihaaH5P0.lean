/- tight -/ -- written by wip/myprint.py and wip/pack.py
import Derived.Test.YtnklnjghecmihaaH5x0
import Derived.Test.YtnklnjghecmihaaH5x16
-- written by a program of this session (wip/myprint.py), over the kit's printer and the session's own contracts
namespace Go.Proofs.Ytnklnjghecmihaa.H5
open Go.RowKit Go.Proofs.YtnklnjghecmihaaW.PrintWords Go.Proofs.YtnklnjghecmihaaW.PrintLast Go.Proofs.YtnklnjghecmihaaW.PrintMore Go.Proofs.YtnklnjghecmihaaW.Mine
attribute [local go_sem] max2_int min2_int max_two min_two max_three min_three max_four min_four max2_str min2_str binOp_gtr_str binOp_leq_str binOp_geq_str   -- for this text's walks alone
set_option linter.unusedVariables false
set_option linter.unusedSimpArgs false
theorem eqA25 (d : Nat) (w : World) (x0 y0 : ByteArray) (x1 y1 : ByteArray) :
    (Op.equalIn (d + 2) 25 (.agg #[.string x0, .string x1]) (.agg #[.string y0, .string y1])).run Try.prog w = .ok (x0.toList == y0.toList && (x1.toList == y1.toList)) w := by
  refine eqA_of Try.underlying25 (by kernel_rfl) ?_
  refine eqf_cons (by rfl) (by go_simp; rfl) (by go_simp; rfl) (by go_simp) ?_
  exact eqf_last (by rfl) (by go_simp; rfl) (by go_simp; rfl) (by go_simp)
end Go.Proofs.Ytnklnjghecmihaa.H5
-- written by a program of this session (wip/myprint.py), over the kit's printer and the session's own contracts
namespace Go.Proofs.Ytnklnjghecmihaa.H5
open Go.RowKit Go.Proofs.YtnklnjghecmihaaW.PrintWords Go.Proofs.YtnklnjghecmihaaW.PrintLast Go.Proofs.YtnklnjghecmihaaW.PrintMore Go.Proofs.YtnklnjghecmihaaW.Mine
attribute [local go_sem] max2_int min2_int max_two min_two max_three min_three max_four min_four max2_str min2_str binOp_gtr_str binOp_leq_str binOp_geq_str   -- for this text's walks alone
set_option linter.unusedVariables false
set_option linter.unusedSimpArgs false
/-! ### block_must: function 75 -/
def block_must.f (a0 : Int) : Option (Unit) := if a0 = 0 then (some ()) else (none)
set_option maxHeartbeats 8000000 in
set_option maxRecDepth 100000 in
theorem block_must.calls (a0 : Int) (w : World) (h : block_must.f a0 = some ()) :
    Calls Try.prog 75 #[.int .i64 a0] w fun e w' => e = .returned (.tuple #[]) ∧ Drawn0 w w' := by
  have hu100 := Try.underlying100
  have H : (if a0 = 0 then (some ()) else (none)) = some () := h
  clear h
  by_cases c2 : a0 = 0
  · rw [if_pos c2] at H
    have c2b0 : (a0 == 0) = true := beq_iff_eq.mpr c2
    have c2b1 : (a0 != 0) = false := bne_eq_false_iff_eq.mpr c2
    clear c2
    go_enter Try.func75, Try.ntmps75
    go_wp2
    first | go_end0 | ((try simp only [Exit.inBlock, Exit.then]); refine bodyPost_ret (results_none rfl _ _ _) rfl ?_)
    exact ⟨by first | rfl | (simp; done) | (simp [*]; done), by repeat (first | exact Drawn0.refl _ | apply Drawn0.step)⟩
  · rw [if_neg c2] at H
    exact absurd H (by simp)
end Go.Proofs.Ytnklnjghecmihaa.H5
-- written by a program of this session (wip/myprint.py), over the kit's printer and the session's own contracts
namespace Go.Proofs.Ytnklnjghecmihaa.H5
open Go.RowKit Go.Proofs.YtnklnjghecmihaaW.PrintWords Go.Proofs.YtnklnjghecmihaaW.PrintLast Go.Proofs.YtnklnjghecmihaaW.PrintMore Go.Proofs.YtnklnjghecmihaaW.Mine
attribute [local go_sem] max2_int min2_int max_two min_two max_three min_three max_four min_four max2_str min2_str binOp_gtr_str binOp_leq_str binOp_geq_str   -- for this text's walks alone
set_option linter.unusedVariables false
set_option linter.unusedSimpArgs false
/-! ### key_Shared: function 82 -/
def key_Shared.l0 : Nat → ByteArray → ByteArray → Int → Int → Int → Option (Int)
  | 0, _, _, _, _, _ => none
  | k + 1, x0, x1, x5, x12, x13 => if x13 < x12 then (if 0 ≤ x13 then (if x13 < (x0.size : Int) then (if x13 < (x1.size : Int) then (if (bt x0 x13) = (bt x1 x13) then (key_Shared.l0 k x0 x1 x5 x12 (wrap64 (x13 + 1))) else (some x13)) else (none)) else (none)) else (none)) else (some x5)
def key_Shared.f (k : Nat) (a0 : ByteArray) (a1 : ByteArray) : Option (Int) := key_Shared.l0 k a0 a1 (mn (a0.size : Int) (a1.size : Int)) (mn (a0.size : Int) (a1.size : Int)) 0
theorem key_Shared.mono_l : ∀ k, (∀ y0 y1 y2 y3 y4, LeO (key_Shared.l0 k y0 y1 y2 y3 y4) (key_Shared.l0 (k + 1) y0 y1 y2 y3 y4))
  | 0 => fun _ _ _ _ _ r h => by simp [key_Shared.l0] at h
  | k + 1 => by
    have ih0 := key_Shared.mono_l k
    · intro y0 y1 y2 y3 y4
      unfold key_Shared.l0
      repeat' first
      | (with_reducible exact ih0 _ _ _ _ _)
      | (with_reducible exact LeO.refl _)
      | (with_reducible exact LeO.none _)
      | (with_reducible refine LeO.ite ?_ ?_)
      | (with_reducible refine LeO.bind ?_ (fun _ => ?_))
      | exact ih0 _ _ _ _ _
      | exact LeO.none _
      | refine LeO.ite ?_ ?_
      | refine LeO.bind ?_ (fun _ => ?_)
theorem key_Shared.mono : ∀ a0 a1 k, LeO (key_Shared.f k a0 a1) (key_Shared.f (k + 1) a0 a1) := by
  (intro a0 a1 k); (have ih0 := key_Shared.mono_l k); (unfold key_Shared.f)
  repeat' first
      | (with_reducible exact ih0 _ _ _ _ _)
      | (with_reducible exact LeO.refl _)
      | (with_reducible exact LeO.none _)
      | (with_reducible refine LeO.ite ?_ ?_)
      | (with_reducible refine LeO.bind ?_ (fun _ => ?_))
      | exact ih0 _ _ _ _ _
      | exact LeO.none _
      | refine LeO.ite ?_ ?_
      | refine LeO.bind ?_ (fun _ => ?_)
set_option maxHeartbeats 8000000 in
set_option maxRecDepth 100000 in
theorem key_Shared.calls (k : Nat) (a0 : ByteArray) (a1 : ByteArray) (r : Int) (w : World) (h : key_Shared.f k a0 a1 = some r) :
    Calls Try.prog 82 #[.string a0, .string a1] w fun e w' => e = .returned (.int .i64 r) ∧ Below w.heap.size w w' := by
  (have HB := Aside0.mk (Below.refl w.heap.size w)); (have H : (key_Shared.l0 k a0 a1 (mn (a0.size : Int) (a1.size : Int)) (mn (a0.size : Int) (a1.size : Int)) 0) = some r := h); (clear h); (obtain ⟨ji3, hji3⟩ : ∃ j_ : Int, (mn (a0.size : Int) (a1.size : Int)) = j_ := ⟨_, rfl⟩); (replace H : (key_Shared.l0 k a0 a1 ji3 ji3 0) = some r := by first | (rw [hji3] at H; exact H) | (simp only [hji3] at H ⊢; exact H)); ((try (have hji3l : 0 ≤ ji3 := by (rw [← hji3]; unfold mn; (repeat' split) <;> omega)))); ((try (have hji3m : 0 ≤ ji3 := by omega))); (have hji3_ : (if (a1.size : Int) < (a0.size : Int) then (a1.size : Int) else (a0.size : Int)) = ji3 := hji3); ((try (have hji3n : (if a1.size < a0.size then ((a1.size : Int) : Int) else (a0.size : Int)) = ji3 := by (rw [← hji3]; unfold mn; (repeat' split) <;> omega)))); (have H' := Aside0.mk H); (clear H); (go_enter Try.func82, Try.ntmps82); (go_wp2); (repeat (go_quiet (fail); try go_wp2)); (go_loopg [13] k (fun kq v13 w' => ∃ (x13_1 : Int), v13 = .int .i64 x13_1 ∧ Aside0 (key_Shared.l0 kq a0 a1 ji3 ji3 x13_1 = some r) ∧ Aside0 (kq ≤ k) ∧ Aside0 (Below w.heap.size w w')))
  case atStart => exact ⟨(0), (by first | rfl | (simp; done) | (simp [*]; done)), H', ⟨Nat.le_refl _⟩, ⟨by repeat (first | (with_reducible first | exact HB.out | apply y1_ | apply y2_ | apply y3_) | exact HB.out)⟩⟩
  case round =>
    (clear H'); (try clear p2); (obtain ⟨x13_1, rfl, HA, HK1, HB⟩ := hrel)
    cases gk with
    | zero => exact absurd HA.out (by simp [key_Shared.l0])
    | succ k1 =>
      (have H := HA.out); (clear HA); (simp only [key_Shared.l0] at H); (by_cases c4 : x13_1 < ji3)
      · rw [if_pos c4] at H
        (have c4b0 : decide (x13_1 < ji3) = true := decide_eq_true c4); (clear c4); (by_cases c5 : 0 ≤ x13_1)
        · rw [if_pos c5] at H
          (have c5b0 : decide (0 ≤ x13_1) = true := decide_eq_true c5); (clear c5); (by_cases c6 : x13_1 < (a0.size : Int))
          · rw [if_pos c6] at H
            (have c6b0 : decide (x13_1 < (a0.size : Int)) = true := decide_eq_true c6); (clear c6); (by_cases c8 : x13_1 < (a1.size : Int))
            · rw [if_pos c8] at H
              (have c8b0 : decide (x13_1 < (a1.size : Int)) = true := decide_eq_true c8); (clear c8); (by_cases c10 : (bt a0 x13_1) = (bt a1 x13_1))
              · rw [if_pos c10] at H
                (have c10b0 : ((bt a0 x13_1) == (bt a1 x13_1)) = true := beq_iff_eq.mpr c10); (have c10b1 : ((bt a0 x13_1) != (bt a1 x13_1)) = false := bne_eq_false_iff_eq.mpr c10); (clear c10); (have H' := Aside0.mk H); (clear H); (have p7 : 0 ≤ (x13_1 : Int) := of_decide_eq_true (by first | (with_reducible assumption) | assumption)); (have q7 : x13_1 < (a0.size : Int) := of_decide_eq_true (by first | (with_reducible assumption) | assumption)); (have hx7 := bt_at a0 x13_1); (replace p7 := eq_true p7); (replace q7 := eq_true q7); (have p9 : 0 ≤ (x13_1 : Int) := of_decide_eq_true (by first | (with_reducible assumption) | assumption)); (have q9 : x13_1 < (a1.size : Int) := of_decide_eq_true (by first | (with_reducible assumption) | assumption)); (have hx9 := bt_at a1 x13_1); (replace p9 := eq_true p9); (replace q9 := eq_true q9); (go_wp2); (repeat (go_quiet (fail); try go_wp2)); (go_roundg k1)
                case measure => have := HK1.out; omega
                case rel => exact ⟨(wrap64 (x13_1 + 1)), (by first | rfl | (simp; done) | (simp [*]; done)), H', ⟨by have := HK1.out; omega⟩, ⟨by repeat (first | (with_reducible first | exact HB.out | apply y1_ | apply y2_ | apply y3_) | exact HB.out)⟩⟩
              · rw [if_neg c10] at H
                (have c10b0 : ((bt a0 x13_1) == (bt a1 x13_1)) = false := beq_eq_false_iff_ne.mpr c10); (have c10b1 : ((bt a0 x13_1) != (bt a1 x13_1)) = true := bne_iff_ne.mpr c10); (obtain rfl := Option.some.inj H); (have p7 : 0 ≤ (x13_1 : Int) := of_decide_eq_true (by first | (with_reducible assumption) | assumption)); (have q7 : x13_1 < (a0.size : Int) := of_decide_eq_true (by first | (with_reducible assumption) | assumption)); (have hx7 := bt_at a0 x13_1); (replace p7 := eq_true p7); (replace q7 := eq_true q7); (have p9 : 0 ≤ (x13_1 : Int) := of_decide_eq_true (by first | (with_reducible assumption) | assumption)); (have q9 : x13_1 < (a1.size : Int) := of_decide_eq_true (by first | (with_reducible assumption) | assumption)); (have hx9 := bt_at a1 x13_1); (replace p9 := eq_true p9); (replace q9 := eq_true q9); (go_wp2); (repeat (go_quiet (fail); try go_wp2)); (go_ret); (exact ⟨by first | rfl | (simp [errW_none, errW_some] <;> rfl) | (simp only [← hji3]; first | rfl | (simp [errW_none, errW_some] <;> rfl)) | (simp [*, errW_none, errW_some] <;> rfl), by repeat (first | (with_reducible first | exact HB.out | apply y1_ | apply y2_ | apply y3_) | exact HB.out)⟩)
            · rw [if_neg c8] at H
              exact absurd H (by simp)
          · rw [if_neg c6] at H
            exact absurd H (by simp)
        · rw [if_neg c5] at H
          exact absurd H (by simp)
      · rw [if_neg c4] at H
        (have c4b0 : decide (x13_1 < ji3) = false := decide_eq_false c4); (clear c4); (obtain rfl := Option.some.inj H); (go_wp2); (repeat (go_quiet (fail); try go_wp2)); (go_ret); (exact ⟨by first | rfl | (simp [errW_none, errW_some] <;> rfl) | (simp only [← hji3]; first | rfl | (simp [errW_none, errW_some] <;> rfl)) | (simp [*, errW_none, errW_some] <;> rfl), by repeat (first | (with_reducible first | exact HB.out | apply y1_ | apply y2_ | apply y3_) | exact HB.out)⟩)
end Go.Proofs.Ytnklnjghecmihaa.H5
-- written by a program of this session (wip/myprint.py), over the kit's printer and the session's own contracts
namespace Go.Proofs.Ytnklnjghecmihaa.H5
open Go.RowKit Go.Proofs.YtnklnjghecmihaaW.PrintWords Go.Proofs.YtnklnjghecmihaaW.PrintLast Go.Proofs.YtnklnjghecmihaaW.PrintMore Go.Proofs.YtnklnjghecmihaaW.Mine
attribute [local go_sem] max2_int min2_int max_two min_two max_three min_three max_four min_four max2_str min2_str binOp_gtr_str binOp_leq_str binOp_geq_str   -- for this text's walks alone
set_option linter.unusedVariables false
set_option linter.unusedSimpArgs false
/-! ### strings_Builder_copyCheck: function 126 -/
set_option maxHeartbeats 1000000 in
set_option maxRecDepth 100000 in
theorem strings_Builder_copyCheck_used (b : Nat) (w : World) (h0 : w.cell? ⟨b, 0, none⟩ = some (.pointer (some ⟨b, 0, none⟩))) :
    Calls Try.prog 126 #[.pointer (some ⟨b, 0, none⟩)] w fun e w' => e = .returned (.tuple #[]) ∧ w' = w := by
  have hsz : (Try.prog.info? 116).map (·.size) = some 2 := by kernel_rfl
  obtain ⟨j, hj, _⟩ := Option.map_eq_some_iff.1 hsz
  clear hsz
  go_enter Try.func126, Try.ntmps126
  go_wp2
  rw [Lib.run_neq_ptr_same w _ Try.underlying113 hj]
  go_wp2
  go_end0
  exact ⟨rfl, rfl⟩
set_option maxHeartbeats 1000000 in
set_option maxRecDepth 100000 in
theorem strings_Builder_copyCheck_fresh (b : Nat) (w : World) (h0 : w.cell? ⟨b, 0, none⟩ = some (.pointer none)) (hsh : w.shape? b = some (116, 2)) (hfz : w.frozen? ⟨b, 0, none⟩ = false) :
    Calls Try.prog 126 #[.pointer (some ⟨b, 0, none⟩)] w fun e w' => e = .returned (.tuple #[]) ∧ w' = w.setCell ⟨b, 0, none⟩ (.pointer (some ⟨b, 0, none⟩)) := by
  have hsz : (Try.prog.info? 116).map (·.size) = some 2 := by kernel_rfl
  obtain ⟨j, hj, hjs⟩ := Option.map_eq_some_iff.1 hsz
  clear hsz
  have hlies : liesAt Try.prog Try.prog.depth 116 (2 / Try.prog.cellsOf 116) 0 116 1 = true := by kernel_rfl
  go_enter Try.func126, Try.ntmps126
  go_wp2
  rw [Lib.run_to_unsafe w ⟨b, 0, none⟩ Try.underlying113 Try.underlying180 hj (by rw [hjs]; decide) hsh (Nat.zero_lt_succ 1)]
  simp only [Result.andThen]
  rw [Oper.upon_value]
  go_wp2
  rw [run_callFunc_extern Try.func154 (by kernel_rfl) (by kernel_rfl) (by kernel_rfl) (e := Extern.AbiNoEscape.same) (by kernel_rfl)]
  rw [Lib.run_noEscape]
  simp only [Result.andThen]
  rw [Oper.upon_value]
  go_wp2
  rw [Lib.run_from_unsafe w ⟨b, 0, none⟩ Try.underlying180 Try.underlying113 hj hsh hlies]
  simp only [Result.andThen]
  rw [Oper.upon_value]
  go_wp2
  go_end0
  exact ⟨rfl, rfl⟩
theorem strings_Builder_copyCheck_c (B b : Nat) (bs : List Value) (w : World) (h : Lib.IsBuilder 116 5 B b bs w) :
    Calls Try.prog 126 #[.pointer (some ⟨b, 0, none⟩)] w fun e w' => e = .returned (.tuple #[]) ∧ (Lib.BuilderAt 116 5 B b (.pointer (some ⟨b, 0, none⟩)) bs w' ∧ Below B w w') := by
  rcases h with h | h
  · refine (strings_Builder_copyCheck_fresh b w h.cell0 h.shape h.frozen0).mono ?_
    rintro e w' ⟨rfl, rfl⟩
    exact ⟨rfl, h.used _, (Below.refl B w).setCell (p := ⟨b, 0, none⟩) h.1 _⟩
  · refine (strings_Builder_copyCheck_used b w h.cell0).mono ?_
    rintro e w' ⟨rfl, rfl⟩
    exact ⟨rfl, h, Below.refl B _⟩
end Go.Proofs.Ytnklnjghecmihaa.H5
-- written by a program of this session (wip/myprint.py), over the kit's printer and the session's own contracts
namespace Go.Proofs.Ytnklnjghecmihaa.H5
open Go.RowKit Go.Proofs.YtnklnjghecmihaaW.PrintWords Go.Proofs.YtnklnjghecmihaaW.PrintLast Go.Proofs.YtnklnjghecmihaaW.PrintMore Go.Proofs.YtnklnjghecmihaaW.Mine
attribute [local go_sem] max2_int min2_int max_two min_two max_three min_three max_four min_four max2_str min2_str binOp_gtr_str binOp_leq_str binOp_geq_str   -- for this text's walks alone
set_option linter.unusedVariables false
set_option linter.unusedSimpArgs false
/-! ### strings_Builder_String: function 84 -/
def strings_Builder_String_ren : Go.Shelf.Ren := ⟨fun | 169 => 84 | n => n, fun | 70 => 113 | 9 => 9 | 0 => 0 | 72 => 116 | 37 => 114 | 127 => 155 | 3 => 3 | 5 => 5 | n => n, fun | n => n⟩
theorem strings_Builder_String_lays : Go.Proofs.Lays.n169 Try.prog strings_Builder_String_ren := {
  mixed := by kernel_rfl
  f169 := Try.func84.trans (congrArg some (by kernel_rfl))
  t0 := Try.underlying0
  a0 := Try.isAgg0
  z0 := Try.sizeOf0
  v0 := Try.zeroValue0
  t3 := Try.underlying3
  a3 := Try.isAgg3
  z3 := Try.sizeOf3
  v3 := Try.zeroValue3
  t9 := Try.underlying9
  a9 := Try.isAgg9
  z9 := Try.sizeOf9
  v9 := Try.zeroValue9
  t37 := Try.underlying114
  a37 := Try.isAgg114
  z37 := Try.sizeOf114
  v37 := Try.zeroValue114
  t70 := Try.underlying113
  a70 := Try.isAgg113
  z70 := Try.sizeOf113
  v70 := Try.zeroValue113
  t72 := Try.underlying116
  a72 := Try.isAgg116
  z72 := Try.sizeOf116
  v72 := Try.zeroValue116
  t127 := Try.underlying155
  a127 := Try.isAgg155
  z127 := Try.sizeOf155
  v127 := Try.zeroValue155 }
theorem strings_Builder_String_extra : Builder.Extra Try.prog strings_Builder_String_ren := {
  sizeBuilder := by kernel_rfl
  liesBuilder := by kernel_rfl
  t5 := Try.underlying5
  a5 := Try.isAgg5
  z5 := Try.sizeOf5
  v5 := Try.zeroValue5
  infoByte := by kernel_rfl
  cellsByte := by kernel_rfl
  sizeByte := by kernel_rfl
  neB5 := by decide }
theorem strings_Builder_String_c (B b : Nat) (l : List UInt8) (w : World) (h : Lib.IsBuilder 116 5 B b (Lib.byteCells l) w) (hBw : B ≤ w.heap.size) :
    Calls Try.prog 84 #[.pointer (some ⟨b, 0, none⟩)] w fun e w' => e = .returned (.string ⟨l.toArray⟩) ∧ Below B w w' := Any.Builder_String_any strings_Builder_String_lays strings_Builder_String_extra B b l w h hBw
end Go.Proofs.Ytnklnjghecmihaa.H5
-- written by a program of this session (wip/myprint.py), over the kit's printer and the session's own contracts
namespace Go.Proofs.Ytnklnjghecmihaa.H5
open Go.RowKit Go.Proofs.YtnklnjghecmihaaW.PrintWords Go.Proofs.YtnklnjghecmihaaW.PrintLast Go.Proofs.YtnklnjghecmihaaW.PrintMore Go.Proofs.YtnklnjghecmihaaW.Mine
attribute [local go_sem] max2_int min2_int max_two min_two max_three min_three max_four min_four max2_str min2_str binOp_gtr_str binOp_leq_str binOp_geq_str   -- for this text's walks alone
set_option linter.unusedVariables false
set_option linter.unusedSimpArgs false
/-! ### strings_Builder_WriteString: function 80 -/
set_option maxHeartbeats 2000000 in
set_option maxRecDepth 100000 in
theorem strings_Builder_WriteString_c (B b : Nat) (bs : List Value) (s : ByteArray) (w : World) (h : Lib.IsBuilder 116 5 B b bs w) (hlen : bs.length + s.size ≤ 140737488355328) (hBw : B ≤ w.heap.size) :
    Calls Try.prog 80 #[.pointer (some ⟨b, 0, none⟩), .string s] w fun e w' => e = .returned (.tuple #[.int .i64 s.size, .nilIface]) ∧ (Lib.BuilderAt 116 5 B b (.pointer (some ⟨b, 0, none⟩)) (bs ++ Lib.strCells s) w' ∧ Below B w w') := by
  have hinfo : (Try.prog.info? 5).map (fun i => (i.zero, i.size, i.bytes)) = some (some (.int .u8 0), 1, 1) := by kernel_rfl
  obtain ⟨i0, hi, hzz⟩ := Option.map_eq_some_iff.1 hinfo
  simp only [Prod.mk.injEq] at hzz
  obtain ⟨hz0, hz1, hz2⟩ := hzz
  clear hinfo
  go_enter Try.func80, Try.ntmps80
  go_wp2_with (go_at_call 126; refine (strings_Builder_copyCheck_c B b bs _ h).mono ?_)
  rintro e w1 ⟨rfl, h1, hb1⟩
  obtain ⟨hB, v, hbk, hown, hne⟩ := h1
  have c0 : w1.cell? ⟨b, 0, none⟩ = some (.pointer (some ⟨b, 0, none⟩)) := by rw [Lib.cell_of_heap hbk]; rfl
  have c1 : w1.cell? ⟨b, 1, none⟩ = some v := by rw [Lib.cell_of_heap hbk]; rfl
  go_wp2_with (at_builtin; refine Lib.wpList_append_own_string _ rfl _ _ 114 9 rfl B 5 i0 Try.underlying114 Try.underlying9 hi hz0 hz1 hz2 _ _ _ rfl hown s rfl ?c3 ?c4 ?c5 ?_)
  case c3 => unfold maxLen; omega
  case c4 => omega
  case c5 => have := hb1.size; omega
  intro v' w2 hown' hgrow _
  have hlt : b < w1.heap.size := by
    rcases Nat.lt_or_ge b w1.heap.size with h' | h'
    · exact h'
    · simp [Array.getElem?_eq_none h'] at hbk
  have hb2 : w2.heap[b]? = some (.cells #[.pointer (some ⟨b, 0, none⟩), v] 116 (0, 0)) := by
    rw [hgrow.block b hlt (fun e => hne e.symm)]
    exact hbk
  have d0 : w2.cell? ⟨b, 0, none⟩ = some (.pointer (some ⟨b, 0, none⟩)) := by rw [Lib.cell_of_heap hb2]; rfl
  have d1 : w2.cell? ⟨b, 1, none⟩ = some v := by rw [Lib.cell_of_heap hb2]; rfl
  have f1 : w2.frozen? ⟨b, 1, none⟩ = false := Lib.frozen_of_heap hb2 1
  obtain ⟨ao, n', cap, rfl⟩ : ∃ ao n' cap, v' = .slice ao n' cap := by
    rcases hown'.2 with ⟨hv, _⟩ | ⟨g, cap, cur, hv, _⟩
    · exact ⟨_, _, _, hv⟩
    · exact ⟨_, _, _, hv⟩
  go_wp2
  go_ret2
  refine ⟨rfl, ?_, ?_⟩
  · exact Lib.BuilderAt.put (T := 116) (e := 5) hB hb2 (bs' := bs ++ Lib.strCells s) (by simpa [Lib.strCells_length] using hown') (by decide)
  · exact (hb1.grown hgrow (by have := hb1.size; omega) (fun k hk => (hown.lt k hk).1)).setCell (p := ⟨b, 1, none⟩) hB _
end Go.Proofs.Ytnklnjghecmihaa.H5
-- written by a program of this session (wip/myprint.py), over the kit's printer and the session's own contracts
namespace Go.Proofs.Ytnklnjghecmihaa.H5
open Go.RowKit Go.Proofs.YtnklnjghecmihaaW.PrintWords Go.Proofs.YtnklnjghecmihaaW.PrintLast Go.Proofs.YtnklnjghecmihaaW.PrintMore Go.Proofs.YtnklnjghecmihaaW.Mine
attribute [local go_sem] max2_int min2_int max_two min_two max_three min_three max_four min_four max2_str min2_str binOp_gtr_str binOp_leq_str binOp_geq_str   -- for this text's walks alone
set_option linter.unusedVariables false
set_option linter.unusedSimpArgs false
/-! ### word_Text: function 127 -/
def word_Text.f (k : Nat) (a0 : ByteArray) : Option (ByteArray) := if (a0.size : Int) > 2147483647 then (some (⟨#[]⟩ : ByteArray)) else ((word_Num.f k (a0.size : Int)).bind fun t130 => (if t130.size + a0.size ≤ 9223372036854775807 then (some (t130 ++ a0)) else (none)))
theorem word_Text.mono : ∀ a0 k, LeO (word_Text.f k a0) (word_Text.f (k + 1) a0) := by
  (intro a0 k); (unfold word_Text.f)
  repeat' first
      | (with_reducible exact word_Num.mono _ _)
      | (with_reducible exact LeO.refl _)
      | (with_reducible exact LeO.none _)
      | (with_reducible refine LeO.ite ?_ ?_)
      | (with_reducible refine LeO.bind ?_ (fun _ => ?_))
      | exact word_Num.mono _ _
      | exact LeO.none _
      | refine LeO.ite ?_ ?_
      | refine LeO.bind ?_ (fun _ => ?_)
set_option maxHeartbeats 8000000 in
set_option maxRecDepth 100000 in
theorem word_Text.calls (k : Nat) (a0 : ByteArray) (r : ByteArray) (w : World) (h : word_Text.f k a0 = some r) :
    Calls Try.prog 127 #[.string a0] w fun e w' => e = .returned (.string r) ∧ Below w.heap.size w w' := by
  (have HB := Aside0.mk (Below.refl w.heap.size w)); (have H : (if (a0.size : Int) > 2147483647 then (some (⟨#[]⟩ : ByteArray)) else ((word_Num.f k (a0.size : Int)).bind fun t130 => (if t130.size + a0.size ≤ 9223372036854775807 then (some (t130 ++ a0)) else (none)))) = some r := h); (clear h); (by_cases c2 : (a0.size : Int) > 2147483647)
  · rw [if_pos c2] at H
    (have c2b0 : decide (2147483647 < (a0.size : Int)) = true := decide_eq_true c2); (have c2b1 : decide (2147483647 < a0.size) = true := decide_eq_true (by omega)); (clear c2); (obtain rfl := Option.some.inj H); (go_enter Try.func127, Try.ntmps127); (go_wp2); (go_ret); (exact ⟨by first | rfl | (simp [errW_none, errW_some] <;> rfl) | (simp [*, errW_none, errW_some] <;> rfl), by repeat (first | (with_reducible first | exact HB.out | apply y1_ | apply y2_ | apply y3_) | exact HB.out)⟩)
  · rw [if_neg c2] at H
    (have c2b0 : decide (2147483647 < (a0.size : Int)) = false := decide_eq_false c2); (have c2b1 : decide (2147483647 < a0.size) = false := decide_eq_false (by omega)); (clear c2); (replace H := Option.bind_eq_some_iff.mp H); (obtain ⟨t130, A30, H⟩ := H); (replace H : (if t130.size + a0.size ≤ 9223372036854775807 then (some (t130 ++ a0)) else (none)) = some r := H); (have A3 := Aside0.mk A30); (clear A30); (by_cases c4 : t130.size + a0.size ≤ 9223372036854775807)
    · rw [if_pos c4] at H
      (have c4b0 := eq_true c4); (have c4b1 : decide (t130.size + a0.size ≤ 9223372036854775807) = true := decide_eq_true c4); (try have c4b2 : (9223372036854775807 < t130.size + a0.size) = False := eq_false (Nat.not_lt.2 c4)); (obtain rfl := Option.some.inj H); (go_enter Try.func127, Try.ntmps127); (go_wp2_with (first | ((with_reducible refine gate_callee (f := 81) rfl ?_); refine goesL_ (some 8) rfl rfl Try.func81 (by kernel_rfl) rfl #[.int .i64 (a0.size : Int)] rfl (by (try simp only [List.map_toArray, List.map_cons, List.map_nil]); first | done | rfl | (simp only [List.length_drop, List.length_take]; rfl)) ?_; (with_reducible refine (word_Num.calls k (a0.size : Int) t130 _ A3.out).mono ?_); rintro e w5 ⟨rfl, hb⟩; refine ⟨_, rfl, ?_⟩; have n0_ := Aside0.mk (below_step (by repeat (first | (with_reducible first | exact HB.out | apply y1_ | apply y2_ | apply y3_) | exact HB.out)) hb); clear HB; have HB := n0_; clear n0_; (try clear hb); (try clear hb2); (try clear hk); (try clear hi)))); (go_ret)
      exact ⟨by first | rfl | (simp [errW_none, errW_some] <;> rfl) | (simp [*, errW_none, errW_some] <;> rfl), by repeat (first | (with_reducible first | exact HB.out | apply y1_ | apply y2_ | apply y3_) | exact HB.out)⟩
    · rw [if_neg c4] at H
      exact absurd H (by simp)
end Go.Proofs.Ytnklnjghecmihaa.H5
-- written by a program of this session (wip/myprint.py), over the kit's printer and the session's own contracts
namespace Go.Proofs.Ytnklnjghecmihaa.H5
open Go.RowKit Go.Proofs.YtnklnjghecmihaaW.PrintWords Go.Proofs.YtnklnjghecmihaaW.PrintLast Go.Proofs.YtnklnjghecmihaaW.PrintMore Go.Proofs.YtnklnjghecmihaaW.Mine
attribute [local go_sem] max2_int min2_int max_two min_two max_three min_three max_four min_four max2_str min2_str binOp_gtr_str binOp_leq_str binOp_geq_str   -- for this text's walks alone
set_option linter.unusedVariables false
set_option linter.unusedSimpArgs false
/-! ### word_Texts: function 83 -/
/-- the texts' bytes, one behind the other -/
def word_Texts.go (k : Nat) : List ByteArray → ByteArray → Option ByteArray
  | [], acc => some acc
  | s :: r, acc => (word_Text.f k s).bind fun t => if acc.size + t.size ≤ 140737488355328 then word_Texts.go k r (acc ++ t) else none
def word_Texts.f (k : Nat) (l0 : List ByteArray) : Option ByteArray := word_Texts.go k l0 ⟨#[]⟩
theorem word_Texts.mono : ∀ l0 k, LeO (word_Texts.f k l0) (word_Texts.f (k + 1) l0) := by
  intro l0 k
  unfold word_Texts.f
  generalize (⟨#[]⟩ : ByteArray) = acc
  induction l0 generalizing acc with
  | nil => exact LeO.refl _
  | cons s r ih =>
    simp only [word_Texts.go]
    refine LeO.bind (word_Text.mono _ _) (fun t => LeO.ite (ih _) (LeO.none _))
theorem word_Texts.still {T e B b : Nat} {bs : List Value} {w w1 : World} (h : Lib.IsBuilder T e B b bs w) (hb : Below w.heap.size w w1) : Lib.IsBuilder T e B b bs w1 := by
  have one : ∀ p, Lib.BuilderAt T e B b p bs w → Lib.BuilderAt T e B b p bs w1 := by
    rintro p h
    have hl := h.lt
    obtain ⟨h1, v, h2, h3, h4⟩ := h
    exact ⟨h1, v, (hb.block b hl).trans h2, own_move h3 (fun k hk => hb.block k (own_lt h3 k hk)), h4⟩
  exact h.imp (one _) (one _)
theorem word_Texts.bytes (acc t : ByteArray) : Lib.byteCells acc.data.toList ++ Lib.strCells t = Lib.byteCells (acc ++ t).data.toList := by
  simp [Lib.byteCells, Lib.strCells]
theorem word_Texts.next (l0 : List ByteArray) (j : Nat) (hlt : (j : Int) < (l0.length : Int)) : l0.drop j = rdOf ByteArray.empty l0 (j : Int) :: l0.drop (j + 1) := by
  have h : j < l0.length := by omega
  rw [List.drop_eq_getElem_cons h]
  unfold rdOf
  simp [h]
set_option maxHeartbeats 4000000 in
set_option maxRecDepth 100000 in
theorem word_Texts.calls (k : Nat) (A0 : Option Addr) (c0 : Nat) (l0 : List ByteArray) (r : ByteArray) (w : World) (hr0 : Kd.C Kd.string w A0 l0.length l0) (hc0 : l0.length ≤ c0) (h : word_Texts.f k l0 = some r) :
    Calls Try.prog 83 #[.slice A0 l0.length c0] w fun e w' => e = .returned (.string r) ∧ Below w.heap.size w w' := by
  have hlen : l0.length ≤ 9223372036854775807 := hr0.2.1
  have HR := Aside0.mk hr0
  have H0 := Aside0.mk h
  have H1 := Aside0.mk (Lib.fresh_isBuilder 116 5 w)
  have H2 := Aside0.mk ((Below.refl w.heap.size w).alloc (Nat.le_refl _) (.cells #[.pointer none, .slice none 0 0] 116))
  clear hr0 h
  go_enter Try.func83, Try.ntmps83
  go_wp2
  go_loopw [8] (fun i wr => ∃ (j : Nat) (acc : ByteArray), i = .int .i64 (j : Int) ∧ j ≤ l0.length ∧ Aside0 (word_Texts.go k (l0.drop j) acc = some r) ∧ Aside0 (Lib.IsBuilder 116 5 w.heap.size w.heap.size (Lib.byteCells acc.data.toList) wr) ∧ Aside0 (Below w.heap.size w wr)) (fun i _ => l0.length - (intOf i).toNat)
  case atStart => exact ⟨0, ⟨#[]⟩, rfl, Nat.zero_le _, H0, H1, H2⟩
  case round =>
    clear H0 H1 H2
    obtain ⟨j, acc, rfl, hj, HA, HI, HB⟩ := hrel
    have hsz := HB.out.size
    by_cases hlt : (j : Int) < (l0.length : Int)
    · obtain ⟨ad, e, hx⟩ := Kd.at_string HR.out (j : Int) (Int.natCast_nonneg j) hlt
      cases e
      replace hx := (HB.out.cell (World.block_lt_of_cell? w _ hx)).trans hx
      rw [Int.toNat_natCast] at hx
      have hgo := HA.out
      clear HA
      rw [word_Texts.next l0 j hlt] at hgo
      obtain ⟨s, hs⟩ : ∃ s, rdOf ByteArray.empty l0 (j : Int) = s := ⟨_, rfl⟩
      rw [hs] at hx hgo
      clear hs
      simp only [word_Texts.go] at hgo
      obtain ⟨t, ht, hgo⟩ := Option.bind_eq_some_iff.1 hgo
      by_cases hb : acc.size + t.size ≤ 140737488355328
      · rw [if_pos hb] at hgo
        have HT := Aside0.mk ht
        have HG := Aside0.mk hgo
        have HL := Aside0.mk hb
        clear ht hgo hb
        have c0 : (decide ((j : Int) < (l0.length : Int))) = true := decide_eq_true hlt
        have c1 : (0 ≤ (j : Int)) = True := eq_true (Int.natCast_nonneg j)
        have c2 : ((j : Int) < (l0.length : Int)) = True := eq_true hlt
        have HJ := Aside0.mk hlt
        clear hlt
        go_wp2_with (go_at_call 127; refine (word_Text.calls k s t _ HT.out).mono ?_)
        rintro e w1 ⟨rfl, hb1⟩
        have HI1 := Aside0.mk (word_Texts.still HI.out hb1)
        have HB1 := Aside0.mk (HB.out.trans (hb1.mono (HB.out.size)))
        have hw1 := hb1.size
        clear HI hb1
        go_wp2_with (go_at_call 80; refine (strings_Builder_WriteString_c w.heap.size w.heap.size _ t _ HI1.out (by have := HL.out; simpa [Lib.byteCells] using this) (by omega)).mono ?_)
        rintro e w2 ⟨rfl, hI2, hb2⟩
        have HI2 := Aside0.mk hI2
        have HB2 := Aside0.mk (HB1.out.trans hb2)
        clear hI2 hb2 HI1 HB1 HB
        go_wp2
        go_roundw
        case rel => exact ⟨j + 1, acc ++ t, by have := HJ.out; rw [show wrap64 ((j : Int) + 1) = ((j + 1 : Nat) : Int) by unfold wrap64; omega], by have := HJ.out; omega, HG, ⟨.inr (by rw [← word_Texts.bytes]; exact HI2.out)⟩, HB2⟩
        case measure => have := HJ.out; rw [show wrap64 ((j : Int) + 1) = ((j + 1 : Nat) : Int) by unfold wrap64; omega]; simp [intOf]; omega
      · rw [if_neg hb] at hgo
        exact absurd hgo (by simp)
    · have c0 : (decide ((j : Int) < (l0.length : Int))) = false := decide_eq_false hlt
      have c1 : ((j : Int) < (l0.length : Int)) = False := eq_false hlt
      have c2 : (j < l0.length) = False := eq_false (by omega)
      have ej : j = l0.length := by omega
      have hgo := HA.out
      rw [ej, List.drop_length] at hgo
      obtain rfl : acc = r := by simpa [word_Texts.go] using hgo
      clear hlt HA hgo ej
      go_wp2_with (go_at_call 84; refine (strings_Builder_String_c w.heap.size w.heap.size acc.data.toList _ HI.out (by omega)).mono ?_)
      rintro e w1 ⟨rfl, hb1⟩
      have HB1 := Aside0.mk (HB.out.trans hb1)
      clear hb1
      go_wp2
      go_ret
      exact ⟨rfl, HB1.out⟩
end Go.Proofs.Ytnklnjghecmihaa.H5
-- written by a program of this session (wip/myprint.py), over the kit's printer and the session's own contracts
namespace Go.Proofs.Ytnklnjghecmihaa.H5
open Go.RowKit Go.Proofs.YtnklnjghecmihaaW.PrintWords Go.Proofs.YtnklnjghecmihaaW.PrintLast Go.Proofs.YtnklnjghecmihaaW.PrintMore Go.Proofs.YtnklnjghecmihaaW.Mine
attribute [local go_sem] max2_int min2_int max_two min_two max_three min_three max_four min_four max2_str min2_str binOp_gtr_str binOp_leq_str binOp_geq_str   -- for this text's walks alone
set_option linter.unusedVariables false
set_option linter.unusedSimpArgs false
/-! ### bytealg_CompareString: function 147 -/
set_option maxHeartbeats 1000000 in
set_option maxRecDepth 100000 in
theorem bytealg_CompareString_calls (a b : ByteArray) (w : World) :
    Calls Try.prog 147 #[.string a, .string b] w fun e w' => e = .returned (.int .i64 (Lib.compareBytes a.data.toList b.data.toList)) ∧ w' = w := by
  go_enter Try.func147, Try.ntmps147
  go_wp2
  rw [run_callFunc_extern Try.func169 (by kernel_rfl) (by kernel_rfl) (by kernel_rfl) (e := Extern.BytealgCompare.compare) (by kernel_rfl), Lib.run_compareString]
  simp only [Result.andThen]
  rw [Oper.upon_value]
  go_wp2
  go_ret
  exact ⟨rfl, rfl⟩
end Go.Proofs.Ytnklnjghecmihaa.H5
-- written by a program of this session (wip/myprint.py), over the kit's printer and the session's own contracts
namespace Go.Proofs.Ytnklnjghecmihaa.H5
open Go.RowKit Go.Proofs.YtnklnjghecmihaaW.PrintWords Go.Proofs.YtnklnjghecmihaaW.PrintLast Go.Proofs.YtnklnjghecmihaaW.PrintMore Go.Proofs.YtnklnjghecmihaaW.Mine
attribute [local go_sem] max2_int min2_int max_two min_two max_three min_three max_four min_four max2_str min2_str binOp_gtr_str binOp_leq_str binOp_geq_str   -- for this text's walks alone
set_option linter.unusedVariables false
set_option linter.unusedSimpArgs false
/-! ### strings_Compare: function 119 -/
def strings_Compare.f (a0 : ByteArray) (a1 : ByteArray) : Option (Int) := some (Lib.compareBytes a0.data.toList a1.data.toList)
set_option maxHeartbeats 1000000 in
theorem strings_Compare.calls (a0 : ByteArray) (a1 : ByteArray) (r : Int) (w : World) (h : strings_Compare.f a0 a1 = some r) :
    Calls Try.prog 119 #[.string a0, .string a1] w fun e w' => e = .returned (.int .i64 r) ∧ Drawn0 w w' := by
  unfold strings_Compare.f at h
  obtain rfl := Option.some.inj h
  clear h
  go_enter Try.func119, Try.ntmps119
  go_wp2_with (go_at_call 147; refine (bytealg_CompareString_calls _ _ _).mono ?_; rintro e w' ⟨rfl, rfl⟩)
  go_ret
  exact ⟨rfl, Drawn0.refl _⟩
end Go.Proofs.Ytnklnjghecmihaa.H5
-- written by a program of this session (wip/myprint.py), over the kit's printer and the session's own contracts
namespace Go.Proofs.Ytnklnjghecmihaa.H5
open Go.RowKit Go.Proofs.YtnklnjghecmihaaW.PrintWords Go.Proofs.YtnklnjghecmihaaW.PrintLast Go.Proofs.YtnklnjghecmihaaW.PrintMore Go.Proofs.YtnklnjghecmihaaW.Mine
attribute [local go_sem] max2_int min2_int max_two min_two max_three min_three max_four min_four max2_str min2_str binOp_gtr_str binOp_leq_str binOp_geq_str   -- for this text's walks alone
set_option linter.unusedVariables false
set_option linter.unusedSimpArgs false
/-! ### block_Place_1: function 118 -/
def block_Place_1.f (a0_0 : ByteArray) (a0_1 : ByteArray) (a1 : ByteArray) : Option (Int) := (strings_Compare.f a0_0 a1).bind fun t134 => (some t134)
set_option maxHeartbeats 8000000 in
set_option maxRecDepth 100000 in
theorem block_Place_1.calls (a0_0 : ByteArray) (a0_1 : ByteArray) (a1 : ByteArray) (r : Int) (w : World) (h : block_Place_1.f a0_0 a0_1 a1 = some r) :
    Calls Try.prog 118 #[.agg #[.string a0_0, .string a0_1], .string a1] w fun e w' => e = .returned (.int .i64 r) ∧ Below w.heap.size w w' := by
  (have hu25 := Try.underlying25); (have HB := Aside0.mk (Below.refl w.heap.size w)); (have H : ((strings_Compare.f a0_0 a1).bind fun t134 => (some t134)) = some r := h); (clear h); (replace H := Option.bind_eq_some_iff.mp H); (obtain ⟨t134, A30, H⟩ := H); (replace H : (some t134) = some r := H); (have A3 := Aside0.mk A30); (clear A30); (obtain rfl := Option.some.inj H); (go_enter Try.func118, Try.ntmps118)
  go_wp2_with (first | ((with_reducible refine gate_dst (N := 2) rfl ?_); refine box_event ?hg (N := 2) ?hd (cs := #[.string a0_0, .string a0_1]) (t := 25) ?hr ?_; (case hd => rfl); (case hg => rfl); (case hr => first | (go_simp; done) | (go_simp; rfl)); intro gb133 hg w4 hbox hb; have n0_ := Aside0.mk (below_step (by repeat (first | (with_reducible first | exact HB.out | apply y1_ | apply y2_ | apply y3_) | exact HB.out)) hb); have n1_ := Aside0.mk (hbox); have n2_ := Aside0.mk ((by rw [hg]; exact (below_size (by repeat (first | (with_reducible first | exact HB.out | apply y1_ | apply y2_ | apply y3_) | exact HB.out))) : w.heap.size ≤ gb133)); have n3_ := Aside0.mk ((by rw [hg]; exact (below_size (by repeat (first | (with_reducible first | exact HB.out | apply y1_ | apply y2_ | apply y3_) | exact HB.out))) : w.heap.size ≤ gb133)); clear HB; have HB := n0_; have BK133 := n1_; have GW133 := n2_; have GE133 := n3_; clear n0_ n1_ n2_ n3_; clear hb hbox hg; have hcz5_0 : w4.cell? ⟨gb133, 0, none⟩ = some (.string a0_0) := (blk_cell BK133.out 0).trans rfl; have hcz5_1 : w4.cell? ⟨gb133, 1, none⟩ = some (.string a0_1) := (blk_cell BK133.out 1).trans rfl; have hfz5_0 := blk_frozen BK133.out 0; have hfz5_1 := blk_frozen BK133.out 1) | ((with_reducible refine gate_callee (f := 119) rfl ?_); refine goesL_ (some 8) rfl rfl Try.func119 (by kernel_rfl) rfl #[.string a0_0, .string a1] rfl (by (try simp only [List.map_toArray, List.map_cons, List.map_nil]); first | done | rfl | (simp only [List.length_drop, List.length_take]; rfl)) ?_; (with_reducible refine (strings_Compare.calls a0_0 a1 t134 _ A3.out).mono ?_); rintro e w' ⟨rfl, ⟨nd, rfl⟩⟩; refine ⟨_, rfl, ?_⟩))
  (go_ret); (exact ⟨by first | rfl | (simp [errW_none, errW_some] <;> rfl) | (simp [*, errW_none, errW_some] <;> rfl), by repeat (first | (with_reducible first | exact HB.out | apply y1_ | apply y2_ | apply y3_ | refine y4_ ?_ GE133.out) | exact HB.out)⟩)
end Go.Proofs.Ytnklnjghecmihaa.H5
-- written by a program of this session (wip/myprint.py), over the kit's printer and the session's own contracts
namespace Go.Proofs.Ytnklnjghecmihaa.H5
open Go.RowKit Go.Proofs.YtnklnjghecmihaaW.PrintWords Go.Proofs.YtnklnjghecmihaaW.PrintLast Go.Proofs.YtnklnjghecmihaaW.PrintMore Go.Proofs.YtnklnjghecmihaaW.Mine
attribute [local go_sem] max2_int min2_int max_two min_two max_three min_three max_four min_four max2_str min2_str binOp_gtr_str binOp_leq_str binOp_geq_str   -- for this text's walks alone
set_option linter.unusedVariables false
set_option linter.unusedSimpArgs false
/-! ### block_Size: function 71 -/
def block_Size.l0 : Nat → Int → List (S25) → Int → Int → Option (Int)
  | 0, _, _, _, _ => none
  | k + 1, x3, x6, x7, x8 => if x8 < x7 then (if 0 ≤ x8 then (if x8 < (x6.length : Int) then (block_Size.l0 k (wrap64 (x3 + (wrap64 ((((rd_T25 x6 x8).f0).size : Int) + (((rd_T25 x6 x8).f1).size : Int))))) x6 x7 (wrap64 (x8 + 1))) else (none)) else (none)) else (some x3)
def block_Size.f (k : Nat) (l0 : List (S25)) : Option (Int) := block_Size.l0 k 0 l0 (l0.length : Int) 0
theorem block_Size.mono_l : ∀ k, (∀ y0 y1 y2 y3, LeO (block_Size.l0 k y0 y1 y2 y3) (block_Size.l0 (k + 1) y0 y1 y2 y3))
  | 0 => fun _ _ _ _ r h => by simp [block_Size.l0] at h
  | k + 1 => by
    have ih0 := block_Size.mono_l k
    · intro y0 y1 y2 y3
      unfold block_Size.l0
      repeat' first
      | (with_reducible exact ih0 _ _ _ _)
      | (with_reducible exact LeO.refl _)
      | (with_reducible exact LeO.none _)
      | (with_reducible refine LeO.ite ?_ ?_)
      | (with_reducible refine LeO.bind ?_ (fun _ => ?_))
      | exact ih0 _ _ _ _
      | exact LeO.none _
      | refine LeO.ite ?_ ?_
      | refine LeO.bind ?_ (fun _ => ?_)
theorem block_Size.mono : ∀ a0 k, LeO (block_Size.f k a0) (block_Size.f (k + 1) a0) := by
  (intro a0 k); (have ih0 := block_Size.mono_l k); (unfold block_Size.f)
  repeat' first
      | (with_reducible exact ih0 _ _ _ _)
      | (with_reducible exact LeO.refl _)
      | (with_reducible exact LeO.none _)
      | (with_reducible refine LeO.ite ?_ ?_)
      | (with_reducible refine LeO.bind ?_ (fun _ => ?_))
      | exact ih0 _ _ _ _
      | exact LeO.none _
      | refine LeO.ite ?_ ?_
      | refine LeO.bind ?_ (fun _ => ?_)
set_option maxHeartbeats 8000000 in
set_option maxRecDepth 100000 in
theorem block_Size.calls (k : Nat) (A0 : Option Addr) (c0 : Nat) (l0 : List (S25)) (r : Int) (w : World) (hr0 : Kd.C k25 w A0 l0.length l0) (hc0 : l0.length ≤ c0) (h : block_Size.f k l0 = some r) :
    Calls Try.prog 71 #[.slice A0 l0.length c0] w fun e w' => e = .returned (.int .i64 r) ∧ Below w.heap.size w w' := by
  (have hu25 := Try.underlying25); (have HR0 := Aside0.mk hr0); (have HC0 := Aside0.mk hc0); (clear hr0 hc0); (have HB := Aside0.mk (Below.refl w.heap.size w)); (have H : (block_Size.l0 k 0 l0 (l0.length : Int) 0) = some r := h); (clear h); (have H' := Aside0.mk H); (clear H); (go_enter Try.func71, Try.ntmps71); (go_wp2); (go_loopg [3, 8] k (fun kq v3 v8 w' => ∃ (x3_1 : Int) (x8_1 : Int), v3 = .int .i64 x3_1 ∧ v8 = .int .i64 x8_1 ∧ Aside0 (block_Size.l0 kq x3_1 l0 (l0.length : Int) x8_1 = some r) ∧ Aside0 (kq ≤ k) ∧ Aside0 (Below w.heap.size w w')))
  case atStart => exact ⟨(0), (0), (by first | rfl | (simp; done) | (simp [*]; done)), (by first | rfl | (simp; done) | (simp [*]; done)), H', ⟨Nat.le_refl _⟩, ⟨by repeat (first | (with_reducible first | exact HB.out | apply y1_ | apply y2_ | apply y3_) | exact HB.out)⟩⟩
  case round =>
    (clear H'); (obtain ⟨x3_1, x8_1, rfl, rfl, HA, HK1, HB⟩ := hrel)
    cases gk with
    | zero => exact absurd HA.out (by simp [block_Size.l0])
    | succ k1 =>
      (have H := HA.out); (clear HA); (simp only [block_Size.l0] at H); (by_cases c2 : x8_1 < (l0.length : Int))
      · rw [if_pos c2] at H
        (have c2b0 : decide (x8_1 < (l0.length : Int)) = true := decide_eq_true c2); (clear c2); (by_cases c3 : 0 ≤ x8_1)
        · rw [if_pos c3] at H
          (have c3b0 : decide (0 ≤ x8_1) = true := decide_eq_true c3); (clear c3); (by_cases c4 : x8_1 < (l0.length : Int))
          · rw [if_pos c4] at H
            (have c4b0 : decide (x8_1 < (l0.length : Int)) = true := decide_eq_true c4); (clear c4); (have H' := Aside0.mk H); (clear H); (have p141 : 0 ≤ (x8_1 : Int) := of_decide_eq_true (by first | (with_reducible assumption) | assumption)); (have q141 : x8_1 < (l0.length : Int) := of_decide_eq_true (by first | (with_reducible assumption) | assumption)); (obtain ⟨ad141, e141, hx141_0, hx141_1⟩ := at_T25 HR0.out x8_1 p141 q141); (cases e141); (replace hx141_0 := (HB.out.cell (World.block_lt_of_cell? w _ hx141_0)).trans hx141_0); (replace hx141_1 := (HB.out.cell (World.block_lt_of_cell? w _ hx141_1)).trans hx141_1); (replace p141 := eq_true p141); (replace q141 := eq_true q141)
            go_wp2_with (first | ((with_reducible refine gate_dst (N := 5) rfl ?_); refine box_event ?hg (N := 5) ?hd (cs := #[.string (⟨#[]⟩ : ByteArray), .string (⟨#[]⟩ : ByteArray)]) (t := 25) ?hr ?_; (case hd => rfl); (case hg => rfl); (case hr => first | (go_simp; done) | (go_simp; rfl)); intro gb142 hg w5 hbox hb; have n0_ := Aside0.mk (below_step (by repeat (first | (with_reducible first | exact HB.out | apply y1_ | apply y2_ | apply y3_) | exact HB.out)) hb); have n1_ := Aside0.mk (hbox); have n2_ := Aside0.mk ((by rw [hg]; exact (below_size (by repeat (first | (with_reducible first | exact HB.out | apply y1_ | apply y2_ | apply y3_) | exact HB.out))) : w.heap.size ≤ gb142)); have n3_ := Aside0.mk ((by rw [hg]; exact (below_size (by repeat (first | (with_reducible first | exact HB.out | apply y1_ | apply y2_ | apply y3_) | exact HB.out))) : w.heap.size ≤ gb142)); clear HB; have HB := n0_; have BK142 := n1_; have GW142 := n2_; have GE142 := n3_; clear n0_ n1_ n2_ n3_; clear hb hbox hg; have hcz6_0 : w5.cell? ⟨gb142, 0, none⟩ = some (.string (⟨#[]⟩ : ByteArray)) := (blk_cell BK142.out 0).trans rfl; have hcz6_1 : w5.cell? ⟨gb142, 1, none⟩ = some (.string (⟨#[]⟩ : ByteArray)) := (blk_cell BK142.out 1).trans rfl; have hfz6_0 := blk_frozen BK142.out 0; have hfz6_1 := blk_frozen BK142.out 1))
            go_roundg k1
            case measure => have := HK1.out; omega
            case rel => exact ⟨(wrap64 (x3_1 + (wrap64 ((((rd_T25 l0 x8_1).f0).size : Int) + (((rd_T25 l0 x8_1).f1).size : Int))))), (wrap64 (x8_1 + 1)), (by first | rfl | (simp; done) | (simp [*]; done)), (by first | rfl | (simp; done) | (simp [*]; done)), H', ⟨by have := HK1.out; omega⟩, ⟨by repeat (first | (with_reducible first | exact HB.out | apply y1_ | apply y2_ | apply y3_ | refine y4_ ?_ GE142.out) | exact HB.out)⟩⟩
          · rw [if_neg c4] at H
            exact absurd H (by simp)
        · rw [if_neg c3] at H
          exact absurd H (by simp)
      · rw [if_neg c2] at H
        (have c2b0 : decide (x8_1 < (l0.length : Int)) = false := decide_eq_false c2); (clear c2); (obtain rfl := Option.some.inj H); (go_wp2); (go_ret); (exact ⟨by first | rfl | (simp [errW_none, errW_some] <;> rfl) | (simp [*, errW_none, errW_some] <;> rfl), by repeat (first | (with_reducible first | exact HB.out | apply y1_ | apply y2_ | apply y3_) | exact HB.out)⟩)
end Go.Proofs.Ytnklnjghecmihaa.H5
-- written by a program of this session (wip/myprint.py), over the kit's printer and the session's own contracts
namespace Go.Proofs.Ytnklnjghecmihaa.H5
open Go.RowKit Go.Proofs.YtnklnjghecmihaaW.PrintWords Go.Proofs.YtnklnjghecmihaaW.PrintLast Go.Proofs.YtnklnjghecmihaaW.PrintMore Go.Proofs.YtnklnjghecmihaaW.Mine
attribute [local go_sem] max2_int min2_int max_two min_two max_three min_three max_four min_four max2_str min2_str binOp_gtr_str binOp_leq_str binOp_geq_str   -- for this text's walks alone
set_option linter.unusedVariables false
set_option linter.unusedSimpArgs false
/-! ### catchmentref05_Rises: function 22 -/
def catchmentref05_Rises.l0 : Nat → List (S25) → Int → Option (Bool)
  | 0, _, _ => none
  | k + 1, x0, x3 => if x3 < (x0.length : Int) then (if 0 ≤ (wrap64 (x3 - 1)) then (if (wrap64 (x3 - 1)) < (x0.length : Int) then (if 0 ≤ x3 then (if ((Op.bytesLess (((rd_T25 x0 (wrap64 (x3 - 1))).f0).toList) (((rd_T25 x0 x3).f0).toList)) = true) then (catchmentref05_Rises.l0 k x0 (wrap64 (x3 + 1))) else (some false)) else (none)) else (none)) else (none)) else (some true)
def catchmentref05_Rises.f (k : Nat) (l0 : List (S25)) : Option (Bool) := catchmentref05_Rises.l0 k l0 1
theorem catchmentref05_Rises.mono_l : ∀ k, (∀ y0 y1, LeO (catchmentref05_Rises.l0 k y0 y1) (catchmentref05_Rises.l0 (k + 1) y0 y1))
  | 0 => fun _ _ r h => by simp [catchmentref05_Rises.l0] at h
  | k + 1 => by
    have ih0 := catchmentref05_Rises.mono_l k
    · intro y0 y1
      unfold catchmentref05_Rises.l0
      repeat' first
      | (with_reducible exact ih0 _ _)
      | (with_reducible exact LeO.refl _)
      | (with_reducible exact LeO.none _)
      | (with_reducible refine LeO.ite ?_ ?_)
      | (with_reducible refine LeO.bind ?_ (fun _ => ?_))
      | exact ih0 _ _
      | exact LeO.none _
      | refine LeO.ite ?_ ?_
      | refine LeO.bind ?_ (fun _ => ?_)
theorem catchmentref05_Rises.mono : ∀ a0 k, LeO (catchmentref05_Rises.f k a0) (catchmentref05_Rises.f (k + 1) a0) := by
  (intro a0 k); (have ih0 := catchmentref05_Rises.mono_l k); (unfold catchmentref05_Rises.f)
  repeat' first
      | (with_reducible exact ih0 _ _)
      | (with_reducible exact LeO.refl _)
      | (with_reducible exact LeO.none _)
      | (with_reducible refine LeO.ite ?_ ?_)
      | (with_reducible refine LeO.bind ?_ (fun _ => ?_))
      | exact ih0 _ _
      | exact LeO.none _
      | refine LeO.ite ?_ ?_
      | refine LeO.bind ?_ (fun _ => ?_)
set_option maxHeartbeats 8000000 in
set_option maxRecDepth 100000 in
theorem catchmentref05_Rises.calls (k : Nat) (A0 : Option Addr) (c0 : Nat) (l0 : List (S25)) (r : Bool) (w : World) (hr0 : Kd.C k25 w A0 l0.length l0) (hc0 : l0.length ≤ c0) (h : catchmentref05_Rises.f k l0 = some r) :
    Calls Try.prog 22 #[.slice A0 l0.length c0] w fun e w' => e = .returned (.bool r) ∧ Drawn0 w w' := by
  (have HR0 := Aside0.mk hr0); (have HC0 := Aside0.mk hc0); (clear hr0 hc0); (have H : (catchmentref05_Rises.l0 k l0 1) = some r := h); (clear h); (have H' := Aside0.mk H); (clear H); (go_enter Try.func22, Try.ntmps22); (go_wp2); (repeat (go_quiet (fail); try go_wp2)); (go_loopg [3] k (fun kq v3 w' => ∃ (x3_1 : Int), v3 = .int .i64 x3_1 ∧ Aside0 (catchmentref05_Rises.l0 kq l0 x3_1 = some r) ∧ Aside0 (kq ≤ k) ∧ Drawn0 w w'))
  case atStart => exact ⟨(1), (by first | rfl | (simp; done) | (simp [*]; done)), H', ⟨Nat.le_refl _⟩, by repeat (first | exact Drawn0.refl _ | apply Drawn0.step)⟩
  case round =>
    (clear H'); (obtain ⟨x3_1, rfl, HA, HK1, ⟨m1, rfl⟩⟩ := hrel)
    cases gk with
    | zero => exact absurd HA.out (by simp [catchmentref05_Rises.l0])
    | succ k1 =>
      (have H := HA.out); (clear HA); (simp only [catchmentref05_Rises.l0] at H); (by_cases c2 : x3_1 < (l0.length : Int))
      · rw [if_pos c2] at H
        (have c2b0 : decide (x3_1 < (l0.length : Int)) = true := decide_eq_true c2); (clear c2); (obtain ⟨ji3, hji3⟩ : ∃ j_ : Int, (wrap64 (x3_1 - 1)) = j_ := ⟨_, rfl⟩); (replace H : (if 0 ≤ (ji3) then (if (ji3) < (l0.length : Int) then (if 0 ≤ x3_1 then (if ((Op.bytesLess (((rd_T25 l0 (ji3)).f0).toList) (((rd_T25 l0 x3_1).f0).toList)) = true) then (catchmentref05_Rises.l0 k1 l0 (wrap64 (x3_1 + 1))) else (some false)) else (none)) else (none)) else (none)) = some r := by first | (rw [hji3] at H; exact H) | (simp only [hji3] at H ⊢; exact H)); (have hji3w : (IntKind.i64.wrap (x3_1 - 1)) = ji3 := (i64_w _).trans hji3); (by_cases c4 : 0 ≤ (ji3))
        · rw [if_pos c4] at H
          (have c4b0 : decide (0 ≤ (ji3)) = true := decide_eq_true c4); (clear c4); (by_cases c5 : (ji3) < (l0.length : Int))
          · rw [if_pos c5] at H
            (have c5b0 : decide ((ji3) < (l0.length : Int)) = true := decide_eq_true c5); (clear c5); (by_cases c6 : 0 ≤ x3_1)
            · rw [if_pos c6] at H
              (have c6b0 : decide (0 ≤ x3_1) = true := decide_eq_true c6); (clear c6); (by_cases c7 : ((Op.bytesLess (((rd_T25 l0 (ji3)).f0).toList) (((rd_T25 l0 x3_1).f0).toList)) = true))
              · rw [if_pos c7] at H
                (have c7b0 : (Op.bytesLess (((rd_T25 l0 (ji3)).f0).toList) (((rd_T25 l0 x3_1).f0).toList)) = true := c7); (clear c7); (have H' := Aside0.mk H); (clear H); (have p155 : 0 ≤ ((ji3) : Int) := of_decide_eq_true (by first | (with_reducible assumption) | assumption)); (have q155 : (ji3) < (l0.length : Int) := of_decide_eq_true (by first | (with_reducible assumption) | assumption)); (obtain ⟨ad155, e155, hx155_0, hx155_1⟩ := at_T25 HR0.out (ji3) p155 q155); (cases e155); (replace p155 := eq_true p155); (replace q155 := eq_true q155); (have p156 : 0 ≤ (x3_1 : Int) := of_decide_eq_true (by first | (with_reducible assumption) | assumption)); (have q156 : x3_1 < (l0.length : Int) := of_decide_eq_true (by first | (with_reducible assumption) | assumption)); (obtain ⟨ad156, e156, hx156_0, hx156_1⟩ := at_T25 HR0.out x3_1 p156 q156); (obtain rfl : ad155 = ad156 := (by injection e156)); (replace p156 := eq_true p156); (replace q156 := eq_true q156); (go_wp2); (repeat (go_quiet (fail); try go_wp2)); (go_roundg k1)
                case measure => have := HK1.out; omega
                case rel => exact ⟨(wrap64 (x3_1 + 1)), (by first | rfl | (simp; done) | (simp [*]; done)), H', ⟨by have := HK1.out; omega⟩, by repeat (first | exact Drawn0.refl _ | apply Drawn0.step)⟩
              · rw [if_neg c7] at H
                (have c7b0 : (Op.bytesLess (((rd_T25 l0 (ji3)).f0).toList) (((rd_T25 l0 x3_1).f0).toList)) = false := by simpa using c7); (clear c7); (obtain rfl := Option.some.inj H); (have p155 : 0 ≤ ((ji3) : Int) := of_decide_eq_true (by first | (with_reducible assumption) | assumption)); (have q155 : (ji3) < (l0.length : Int) := of_decide_eq_true (by first | (with_reducible assumption) | assumption)); (obtain ⟨ad155, e155, hx155_0, hx155_1⟩ := at_T25 HR0.out (ji3) p155 q155); (cases e155); (replace p155 := eq_true p155); (replace q155 := eq_true q155); (have p156 : 0 ≤ (x3_1 : Int) := of_decide_eq_true (by first | (with_reducible assumption) | assumption)); (have q156 : x3_1 < (l0.length : Int) := of_decide_eq_true (by first | (with_reducible assumption) | assumption)); (obtain ⟨ad156, e156, hx156_0, hx156_1⟩ := at_T25 HR0.out x3_1 p156 q156); (obtain rfl : ad155 = ad156 := (by injection e156)); (replace p156 := eq_true p156); (replace q156 := eq_true q156); (go_wp2); (repeat (go_quiet (fail); try go_wp2)); (go_ret); (exact ⟨by first | rfl | (simp; done) | (simp only [← hji3] <;> (first | rfl | simp)) | (simp [*]; done), by repeat (first | exact Drawn0.refl _ | apply Drawn0.step)⟩)
            · rw [if_neg c6] at H
              exact absurd H (by simp)
          · rw [if_neg c5] at H
            exact absurd H (by simp)
        · rw [if_neg c4] at H
          exact absurd H (by simp)
      · rw [if_neg c2] at H
        (have c2b0 : decide (x3_1 < (l0.length : Int)) = false := decide_eq_false c2); (clear c2); (obtain rfl := Option.some.inj H); (go_wp2); (repeat (go_quiet (fail); try go_wp2)); (go_ret); (exact ⟨by first | rfl | (simp; done) | (simp [*]; done), by repeat (first | exact Drawn0.refl _ | apply Drawn0.step)⟩)
end Go.Proofs.Ytnklnjghecmihaa.H5
-- written by a program of this session (wip/myprint.py), over the kit's printer and the session's own contracts
namespace Go.Proofs.Ytnklnjghecmihaa.H5
open Go.RowKit Go.Proofs.YtnklnjghecmihaaW.PrintWords Go.Proofs.YtnklnjghecmihaaW.PrintLast Go.Proofs.YtnklnjghecmihaaW.PrintMore Go.Proofs.YtnklnjghecmihaaW.Mine
attribute [local go_sem] max2_int min2_int max_two min_two max_three min_three max_four min_four max2_str min2_str binOp_gtr_str binOp_leq_str binOp_geq_str   -- for this text's walks alone
set_option linter.unusedVariables false
set_option linter.unusedSimpArgs false
/-! ### api_Entry_87: function 87 -/
open Go.Proofs.YtnklnjghecmihaaW.Sl
theorem api_Entry_87.info : (Try.prog.info? 25).map (fun i => (i.zero, i.size, i.bytes)) = some (some (.agg #[(.string ⟨#[]⟩), (.string ⟨#[]⟩)]), 2, 32) := by kernel_rfl
theorem api_Entry_87.flat : Flat k25 := by first | exact flat_string | exact flat_int _ | exact flat_bool | exact flat_iso (by repeat (first | exact flat_string | exact flat_int _ | exact flat_bool | refine flat_pair ?_ ?_)) _
theorem api_Entry_87.isNil (A : Option Addr) (n c : Nat) (w : World) : Sem.run Try.prog (binOp .eql 22 (.slice A n c) (.slice none 0 0)) w = .ok (.bool A.isNone) w := by cases A <;> kernel_rfl
attribute [local go_sem] api_Entry_87.isNil
def api_Entry_87.f (l0 : List S25) : Option (List S25) := if l0.length < 1000000 then some l0 else none
set_option maxHeartbeats 4000000 in
set_option maxRecDepth 100000 in
theorem api_Entry_87.calls (A0 : Option Addr) (c0 : Nat) (l0 : List S25) (r : List S25) (w : World) (hr0 : Kd.C k25 w A0 l0.length l0) (hc0 : l0.length ≤ c0) (h : api_Entry_87.f l0 = some r) :
    Calls Try.prog 87 #[.slice A0 l0.length c0] w fun e w' => ∃ v0_ : Value, e = .returned (v0_) ∧ Kd.R k25 25 w' w.heap.size (fun _ => True) v0_ r ∧ Below w.heap.size w w' := by
  unfold api_Entry_87.f at h
  by_cases hl : l0.length < 1000000
  · rw [if_pos hl] at h
    obtain rfl := Option.some.inj h
    clear h
    cases A0 with
    | none =>
      have h0 : l0 = [] := by
        rcases Nat.eq_zero_or_pos l0.length with h0 | h0
        · exact List.eq_nil_of_length_eq_zero h0
        · obtain ⟨ad, h, _⟩ := hr0.2.2 h0
          cases h
      subst h0
      clear hr0
      go_enter Try.func87, Try.ntmps87
      go_wp2
      go_ret
      exact ⟨_, rfl, Kd.R_nil _ _ _ _ _, Below.refl _ _⟩
    | some ad =>
      rcases Nat.eq_zero_or_pos l0.length with h0 | h0
      · have h1 : l0 = [] := List.eq_nil_of_length_eq_zero h0
        subst h1
        clear hr0
        go_enter Try.func87, Try.ntmps87
        go_wp2
        go_ret
        exact ⟨_, rfl, grown_nil k25 25 _ 0 (by unfold maxLen; omega) (by simp), (Below.refl _ w).alloc (Nat.le_refl _) _⟩
      · have hrun := R_append_run (P := Try.prog) k25 api_Entry_87.flat (by decide) (W := w.alloc (.cells #[] 25)) 22 22 25 _ 32 Try.underlying22 api_Entry_87.info rfl (by decide) (xs := []) (A := some ⟨w.heap.size, 0, none⟩) (n := 0) (cap := 0) ⟨rfl, by omega, fun h => absurd h (by omega)⟩ (fun h => by cases h) (m := l0.length) (c := c0) (Kd.C_alloc hr0 _) (by omega) (by omega)
        have HRUN := Aside0.mk hrun
        clear hrun hr0
        go_enter Try.func87, Try.ntmps87
        go_wp2_with (at_builtin; refine wpList_append_ex _ rfl _ _ _ _ rfl _ _ rfl rfl HRUN.out ?_; rintro v' w' ⟨hR, hB⟩)
        go_ret
        exact ⟨_, rfl, Kd.R_lower hR (by simp), below_step ((Below.refl _ w).alloc (Nat.le_refl _) _) hB⟩
  · rw [if_neg hl] at h
    cases h
end Go.Proofs.Ytnklnjghecmihaa.H5
-- written by a program of this session (wip/myprint.py), over the kit's printer and the session's own contracts
namespace Go.Proofs.Ytnklnjghecmihaa.H5
open Go.RowKit Go.Proofs.YtnklnjghecmihaaW.PrintWords Go.Proofs.YtnklnjghecmihaaW.PrintLast Go.Proofs.YtnklnjghecmihaaW.PrintMore Go.Proofs.YtnklnjghecmihaaW.Mine
attribute [local go_sem] max2_int min2_int max_two min_two max_three min_three max_four min_four max2_str min2_str binOp_gtr_str binOp_leq_str binOp_geq_str   -- for this text's walks alone
set_option linter.unusedVariables false
set_option linter.unusedSimpArgs false
/-! ### api_Entry_121: function 121 -/
open Go.Proofs.YtnklnjghecmihaaW.Sl
theorem api_Entry_121.info : (Try.prog.info? 25).map (fun i => (i.zero, i.size, i.bytes)) = some (some (.agg #[(.string ⟨#[]⟩), (.string ⟨#[]⟩)]), 2, 32) := by kernel_rfl
theorem api_Entry_121.flat : Flat k25 := by first | exact flat_string | exact flat_int _ | exact flat_bool | exact flat_iso (by repeat (first | exact flat_string | exact flat_int _ | exact flat_bool | refine flat_pair ?_ ?_)) _
theorem api_Entry_121.sz : (Try.prog.info? 25).map (·.size) = some (k25).sz := by kernel_rfl
set_option maxHeartbeats 4000000 in
set_option maxRecDepth 100000 in
/-- Insert, of one, into a row with no room, at its end. -/
theorem api_Entry_121.at_end (A0 : Option Addr) (l0 : List S25) (x : List S25) (hx : x.length = 1) (bx : Addr) (w : World) (hr0 : Kd.C k25 w A0 l0.length l0) (hcx : Kd.C k25 w (some bx) 1 x) (hl : l0.length < 1000000) :
    Calls Try.prog 121 #[.slice A0 l0.length l0.length, .int .i64 (l0.length : Int), .slice (some bx) 1 1] w fun e w' => ∃ v : Value, e = .returned v ∧ Kd.R k25 25 w' w.heap.size (fun _ => True) v (l0 ++ x) ∧ Below w.heap.size w w' := by
  have hrun := R_append_run (P := Try.prog) k25 api_Entry_121.flat (by decide) 22 22 25 _ 32 Try.underlying22 api_Entry_121.info rfl (by decide) (cap := l0.length) hr0 (fun hA => by
    subst hA
    rcases Nat.eq_zero_or_pos l0.length with h0 | h0
    · exact h0
    · obtain ⟨ad, h, _⟩ := hr0.2.2 h0
      cases h) (c := 1) hcx (by omega) (by omega)
  have HRUN := Aside0.mk hrun
  clear hrun hr0 hcx
  go_enter Try.func121, Try.ntmps121
  go_wp2_with (at_builtin; refine wpList_append_ex _ rfl _ _ _ _ rfl _ _ rfl rfl HRUN.out ?_; rintro v' w' ⟨hR, hB⟩)
  go_ret
  exact ⟨_, rfl, hR, hB⟩
set_option maxHeartbeats 4000000 in
set_option maxRecDepth 100000 in
/-- Insert, of one, into a row with no room, ahead of another. -/
theorem api_Entry_121.at_mid (ad : Addr) (l0 : List S25) (x : List S25) (hx : x.length = 1) (bx : Addr) (i : Nat) (hi : i < l0.length) (w : World) (hr0 : Kd.C k25 w (some ad) l0.length l0) (hcx : Kd.C k25 w (some bx) 1 x) (hl : l0.length < 1000000) :
    Calls Try.prog 121 #[.slice (some ad) l0.length l0.length, .int .i64 (i : Int), .slice (some bx) 1 1] w fun e w' => ∃ v : Value, e = .returned v ∧ Kd.R k25 25 w' w.heap.size (fun _ => True) v (l0.take i ++ x ++ l0.drop i) ∧ Below w.heap.size w w' := by
  have hn : i + (l0.length + 1 - i) = l0.length + 1 := by omega
  have hrun := fun kx => R_zeros_grow (P := Try.prog) k25 api_Entry_121.flat (by decide) 22 3 22 25 _ 32 (z0 := z25) (cap := l0.length) Try.underlying22 (kn := .i64) Try.underlying3 api_Entry_121.info rfl (by decide) (C_take hr0 i (by omega)) (fun _ => by first | rfl | exact ⟨_, _, rfl, rfl, rfl⟩ | exact k25_mk _ _) (l0.length + 1 - i) (by omega) (by omega) (by omega) kx
  rw [hn] at hrun
  have hkk : (l0.length : Int) + 1 - (i : Int) = ((l0.length + 1 - i : Nat) : Int) := by omega
  have hne : ¬ ((i : Int) = (l0.length : Int)) := by omega
  have hl3 : (l0.length : Int) < (l0.length : Int) + 1 := by omega
  have hbe : ((i : Int) == (l0.length : Int)) = false := beq_eq_false_iff_ne.2 hne
  have hbe2 : (i == l0.length) = false := beq_eq_false_iff_ne.2 (by omega)
  have hb1 : (0 : Int) ≤ (i : Int) + 1 := by omega
  have htn : ((i : Int) + 1).toNat = i + 1 := by omega
  have hb3 : (i : Int) ≤ (l0.length : Int) := by omega
  have HRUN := Aside0.mk hrun
  have HC := Aside0.mk hr0
  have HX := Aside0.mk hcx
  clear hrun hr0 hcx
  go_enter Try.func121, Try.ntmps121
  go_wp2_with (first
    | (at_builtin; refine wpList_append_ex _ rfl _ _ _ _ rfl _ _ rfl rfl (HRUN.out .i64) ?_; rintro v' w' ⟨c, rfl, hR, hB, hc⟩; have HR := Aside0.mk hR; have HB := Aside0.mk hB; clear hR hB)
    | (refine wpList_copy_ex _ rfl (.tmp 43) (.tmp 44) 22 22 rfl (.slice (some ⟨w.heap.size, i * 2, none⟩) (l0.length + 1 - i) (c - i)) (.slice (some bx) 1 1) (by rfl) (by rfl) (R_copy_run k25 api_Entry_121.flat (by decide) 22 22 3 25 Try.underlying22 api_Entry_121.sz HR.out (by rw [List.length_append, List.length_take, List.length_replicate]; omega) i (i * 2) (c - i) (by first | rfl | exact (Nat.mul_one _).symm) (Kd.C_below HX.out HB.out) (by omega)) ?_; rintro v' w2 ⟨hR2, hg2⟩))
  have hB2 := HB.out.grown hg2 HB.out.size (fun k h => by cases h; exact Nat.le_refl _)
  rw [ins_one l0 x _ i hx hi] at hR2
  have HR2 := Aside0.mk hR2
  have HB2 := Aside0.mk hB2
  have HD := Aside0.mk (C_drop (Kd.C_below HC.out hB2) i (i * 2) (by first | rfl | exact (Nat.mul_one _).symm) (by omega))
  clear hB2 hg2 hR2
  have hw1 : IntKind.i64.wrap ((i : Int) + 1) = (i : Int) + 1 := by rw [IntKind.wrap_i64]; omega
  have hGi : ¬ (c = i) := by omega
  have hGim : ¬ (c = i + 1) := by omega
  have hGn : ¬ (l0.length = i) := by omega
  have hGc : i + 1 ≤ c := by omega
  have hGl : i + 1 ≤ l0.length + 1 := by omega
  have hGl2 : (i : Int) + 1 ≤ (l0.length : Int) + 1 := by omega
  go_region_law (refine step_copy_ex _ rfl (.tmp 50) (.tmp 53) 22 22 rfl (.slice (some ⟨w.heap.size, (i + 1) * 2, none⟩) (l0.length + 1 - (i + 1)) (c - (i + 1))) (.slice (some (ad.add (i * 2))) (l0.length - i) (l0.length - i)) (by simp [Act.eval, Act.put]) (by simp [Act.eval, Act.put]) (R_copy_run k25 api_Entry_121.flat (by decide) 22 22 3 25 Try.underlying22 api_Entry_121.sz (by first | exact HR2.out | exact Kd.R_drew HR2.out) (ins_len l0 x _ i hx hi) (i + 1) ((i + 1) * 2) (c - (i + 1)) (by first | rfl | exact (Nat.mul_one _).symm) (by first | exact HD.out | exact Kd.C_below HD.out (Below.refl _ _).drew) (by omega)) ?_; rintro v' w3 ⟨hR3, hg3⟩)
  have hB3 := HB2.out.drew.grown hg3 (Nat.le_trans HB2.out.size (by simp)) (fun k h => by cases h; exact Nat.le_refl _)
  rw [ins_two l0 x _ i hx hi] at hR3
  clear hg3
  have HR3 := Aside0.mk hR3
  have HB3 := Aside0.mk hB3
  clear hR3 hB3
  go_wp2
  go_ret
  exact ⟨_, rfl, HR3.out, HB3.out⟩
/-- Insert of one, into a row with no room. -/
theorem api_Entry_121.full (A0 : Option Addr) (l0 : List S25) (x : List S25) (hx : x.length = 1) (bx : Addr) (i : Nat) (hi : i ≤ l0.length) (w : World) (hr0 : Kd.C k25 w A0 l0.length l0) (hcx : Kd.C k25 w (some bx) 1 x) (hl : l0.length < 1000000) :
    Calls Try.prog 121 #[.slice A0 l0.length l0.length, .int .i64 (i : Int), .slice (some bx) 1 1] w fun e w' => ∃ v : Value, e = .returned v ∧ Kd.R k25 25 w' w.heap.size (fun _ => True) v (l0.take i ++ x ++ l0.drop i) ∧ Below w.heap.size w w' := by
  by_cases h : i = l0.length
  · subst h
    rw [List.take_length, List.drop_length, List.append_nil]
    exact api_Entry_121.at_end A0 l0 x hx bx w hr0 hcx hl
  · obtain ⟨ad, rfl, _⟩ := hr0.2.2 (by omega)
    exact api_Entry_121.at_mid ad l0 x hx bx i (by omega) w hr0 hcx hl
end Go.Proofs.Ytnklnjghecmihaa.H5
-- written by a program of this session (wip/myprint.py), over the kit's printer and the session's own contracts
namespace Go.Proofs.Ytnklnjghecmihaa.H5
open Go.RowKit Go.Proofs.YtnklnjghecmihaaW.PrintWords Go.Proofs.YtnklnjghecmihaaW.PrintLast Go.Proofs.YtnklnjghecmihaaW.PrintMore Go.Proofs.YtnklnjghecmihaaW.Mine
attribute [local go_sem] max2_int min2_int max_two min_two max_three min_three max_four min_four max2_str min2_str binOp_gtr_str binOp_leq_str binOp_geq_str   -- for this text's walks alone
set_option linter.unusedVariables false
set_option linter.unusedSimpArgs false
/-! ### block_without: function 122 -/
open Go.Proofs.YtnklnjghecmihaaW.Sl
def block_without.f (l0 : List S25) (a1 a2 : Int) : Option (List S25) := if 0 ≤ a1 ∧ a1 ≤ mx a1 a2 ∧ mx a1 a2 ≤ (l0.length : Int) ∧ l0.length < 1000000 then some (l0.take a1.toNat ++ l0.drop (mx a1 a2).toNat) else none
set_option maxHeartbeats 8000000 in
set_option maxRecDepth 100000 in
theorem block_without.calls (A0 : Option Addr) (c0 : Nat) (l0 : List S25) (a1 a2 : Int) (r : List S25) (w : World) (hr0 : Kd.C k25 w A0 l0.length l0) (hc0 : l0.length ≤ c0) (h : block_without.f l0 a1 a2 = some r) :
    Calls Try.prog 122 #[.slice A0 l0.length c0, .int .i64 a1, .int .i64 a2] w fun e w' => ∃ v0_ : Value, e = .returned (v0_) ∧ Kd.R k25 25 w' w.heap.size (fun _ => True) v0_ r ∧ Below w.heap.size w w' := by
  unfold block_without.f at h
  by_cases hh : 0 ≤ a1 ∧ a1 ≤ mx a1 a2 ∧ mx a1 a2 ≤ (l0.length : Int) ∧ l0.length < 1000000
  · rw [if_pos hh] at h
    obtain rfl := Option.some.inj h
    obtain ⟨h1, h2, h3, h4⟩ := hh
    clear h
    have hmx : (if a1 < a2 then a2 else a1) = mx a1 a2 := by unfold mx; rfl
    generalize mx a1 a2 = m at *
    obtain ⟨i, rfl⟩ := Int.eq_ofNat_of_zero_le h1
    obtain ⟨j, rfl⟩ := Int.eq_ofNat_of_zero_le (Int.le_trans h1 h2)
    have hij : i ≤ j := by omega
    have hjn : j ≤ l0.length := by omega
    rw [Int.toNat_natCast, Int.toNat_natCast]
    obtain ⟨i0, hi0, _, hsz, _⟩ := info_parts info25
    have hct := cut_to (P := Try.prog) 22 25 .i64 Try.underlying22 hi0 A0 l0.length c0 (i : Int) (by omega) (by omega) hc0
    have hcf := cut_from (P := Try.prog) 22 25 .i64 Try.underlying22 hi0 2 hsz A0 l0.length c0 (j : Int) (by omega) (by omega)
    rw [Int.toNat_natCast] at hct hcf
    have HD : ∀ w1, Below w.heap.size w w1 → Kd.C k25 w1 (if c0 = j then A0 else A0.map (·.add (j * 2))) (l0.length - j) (l0.drop j) := by
      intro w1 hb
      have hC := Kd.C_below hr0 hb
      by_cases hz : l0.length - j = 0
      · rw [List.drop_eq_nil_of_le (by omega), hz]
        exact ⟨rfl, by omega, fun h => absurd h (by omega)⟩
      · obtain ⟨ad, rfl, _⟩ := hr0.2.2 (by omega)
        rw [if_neg (by omega)]
        exact C_drop hC j (j * 2) rfl hjn
    have HC := Aside0.mk hr0
    have HDD := Aside0.mk HD
    have HL := Aside0.mk h4
    have hmk := mk_cap (P := Try.prog) 22 25 (.agg #[.string ⟨#[]⟩, .string ⟨#[]⟩]) 32 Try.underlying22 info25 l0.length (by omega)
    have HMB : Aside0 (Below w.heap.size w (w.drew.alloc (.cells (madeCells #[.string ⟨#[]⟩, .string ⟨#[]⟩] (l0.length * 2)) 25))) := ⟨(Below.refl _ w).drew.alloc (Nat.le_refl _) _⟩
    have HM : Aside0 (Kd.R k25 25 (w.drew.alloc (.cells (madeCells #[.string ⟨#[]⟩, .string ⟨#[]⟩] (l0.length * 2)) 25)) w.heap.size (fun _ => True) (.slice (some ⟨w.heap.size, 0, none⟩) 0 l0.length) []) := ⟨grown_nil k25 (W := w.drew) 25 _ l0.length (by unfold maxLen; omega) (size_madeCells _ _)⟩
    clear HD hr0 h4 hi0 hsz
    generalize (if c0 = j then A0 else A0.map (·.add (j * 2))) = AJ at *
    go_enter Try.func122, Try.ntmps122
    go_wp2_with fail
    go_region_law (first
      | (refine Kd.R_append_rows_step k25 (Rr := k25.K _) (w0 := w) w.heap.size rfl _ _ 22 25 (.agg #[.string ⟨#[]⟩, .string ⟨#[]⟩]) 32 rfl Try.underlying22 info25 rfl (by decide) (by omega) (.slice (some ⟨w.heap.size, 0, none⟩) 0 l0.length) [] (l0.take i) A0 i c0 (fun _ => True) (fun _ => False) (by simp [Act.eval, Act.put]) (by simp [Act.eval, Act.put]) HM.out (C_take (Kd.C_below HC.out HMB.out) i (by omega)) (fun _ _ h => h) (fun _ h => h.elim) (fun _ _ => trivial) HMB.out HMB.out.size (by have := HL.out; simp; omega) ?_; intro v2 w2 hR2 hB2 _ _; have HR2 := Aside0.mk hR2; have HB2 := Aside0.mk hB2; clear hR2 hB2)
      | (refine Kd.R_append_rows_step k25 (Rr := k25.K _) (w0 := w) w.heap.size rfl _ _ 22 25 (.agg #[.string ⟨#[]⟩, .string ⟨#[]⟩]) 32 rfl Try.underlying22 info25 rfl (by decide) (by omega) v2 ([] ++ l0.take i) (l0.drop j) AJ (l0.length - j) (c0 - j) (fun _ => True) (fun _ => False) (by simp [Act.eval, Act.put]) (by simp [Act.eval, Act.put]) HR2.out (HDD.out _ HB2.out) (fun _ _ h => h) (fun _ h => h.elim) (fun _ _ => trivial) HB2.out HB2.out.size (by have := HL.out; simp; omega) ?_; intro v3 w3 hR3 hB3 _ _; have HR3 := Aside0.mk hR3; have HB3 := Aside0.mk hB3; clear hR3 hB3))
    all_goals (first | (go_ret; exact ⟨_, rfl, HR3.out, HB3.out⟩) | (go_wp2; go_ret; exact ⟨_, rfl, HR3.out, HB3.out⟩))
  · rw [if_neg hh] at h
    cases h
end Go.Proofs.Ytnklnjghecmihaa.H5
-- written by a program of this session (wip/myprint.py), over the kit's printer and the session's own contracts
namespace Go.Proofs.Ytnklnjghecmihaa.H5
open Go.RowKit Go.Proofs.YtnklnjghecmihaaW.PrintWords Go.Proofs.YtnklnjghecmihaaW.PrintLast Go.Proofs.YtnklnjghecmihaaW.PrintMore Go.Proofs.YtnklnjghecmihaaW.Mine
attribute [local go_sem] max2_int min2_int max_two min_two max_three min_three max_four min_four max2_str min2_str binOp_gtr_str binOp_leq_str binOp_geq_str   -- for this text's walks alone
set_option linter.unusedVariables false
set_option linter.unusedSimpArgs false
/-! ### key_ahead: function 137 -/
def key_ahead.f (a0 : ByteArray) (a1 : ByteArray) : Option (Bool) := if a1.toList = ([] : List UInt8) then (some true) else (some (Op.bytesLess a0.toList a1.toList))
set_option maxHeartbeats 8000000 in
set_option maxRecDepth 100000 in
theorem key_ahead.calls (a0 : ByteArray) (a1 : ByteArray) (r : Bool) (w : World) (h : key_ahead.f a0 a1 = some r) :
    Calls Try.prog 137 #[.string a0, .string a1] w fun e w' => e = .returned (.bool r) ∧ Drawn0 w w' := by
  (have H : (if a1.toList = ([] : List UInt8) then (some true) else (some (Op.bytesLess a0.toList a1.toList))) = some r := h); (clear h); (by_cases c3 : a1.toList = ([] : List UInt8))
  · rw [if_pos c3] at H
    (have c3b0 : (a1.toList == ([] : List UInt8)) = true := beq_iff_eq.mpr c3); (have c3b1 : (a1.toList != ([] : List UInt8)) = false := bne_eq_false_iff_eq.mpr c3); (clear c3); (obtain rfl := Option.some.inj H); (go_enter Try.func137, Try.ntmps137); (go_wp2); (go_ret); (exact ⟨by first | rfl | (simp; done) | (simp [*]; done), by repeat (first | exact Drawn0.refl _ | apply Drawn0.step)⟩)
  · rw [if_neg c3] at H
    (have c3b0 : (a1.toList == ([] : List UInt8)) = false := beq_eq_false_iff_ne.mpr c3); (have c3b1 : (a1.toList != ([] : List UInt8)) = true := bne_iff_ne.mpr c3); (obtain rfl := Option.some.inj H); (go_enter Try.func137, Try.ntmps137); (go_wp2); (go_ret); (exact ⟨by first | rfl | (simp; done) | (simp [*]; done), by repeat (first | exact Drawn0.refl _ | apply Drawn0.step)⟩)
end Go.Proofs.Ytnklnjghecmihaa.H5
-- written by a program of this session (wip/myprint.py), over the kit's printer and the session's own contracts
namespace Go.Proofs.Ytnklnjghecmihaa.H5
open Go.RowKit Go.Proofs.YtnklnjghecmihaaW.PrintWords Go.Proofs.YtnklnjghecmihaaW.PrintLast Go.Proofs.YtnklnjghecmihaaW.PrintMore Go.Proofs.YtnklnjghecmihaaW.Mine
attribute [local go_sem] max2_int min2_int max_two min_two max_three min_three max_four min_four max2_str min2_str binOp_gtr_str binOp_leq_str binOp_geq_str   -- for this text's walks alone
set_option linter.unusedVariables false
set_option linter.unusedSimpArgs false
/-! ### key_RightRange: function 98 -/
def key_RightRange.f (a0_0 : ByteArray) (a0_1 : ByteArray) : Option (Bool) := (key_ahead.f a0_0 a0_1).bind fun t188 => (some t188)
set_option maxHeartbeats 8000000 in
set_option maxRecDepth 100000 in
theorem key_RightRange.calls (a0_0 : ByteArray) (a0_1 : ByteArray) (r : Bool) (w : World) (h : key_RightRange.f a0_0 a0_1 = some r) :
    Calls Try.prog 98 #[.agg #[.string a0_0, .string a0_1]] w fun e w' => e = .returned (.bool r) ∧ Below w.heap.size w w' := by
  (have hu48 := Try.underlying48); (have HB := Aside0.mk (Below.refl w.heap.size w)); (have H : ((key_ahead.f a0_0 a0_1).bind fun t188 => (some t188)) = some r := h); (clear h); (replace H := Option.bind_eq_some_iff.mp H); (obtain ⟨t188, A20, H⟩ := H); (replace H : (some t188) = some r := H); (have A2 := Aside0.mk A20); (clear A20); (obtain rfl := Option.some.inj H); (go_enter Try.func98, Try.ntmps98)
  go_wp2_with (first | ((with_reducible refine gate_dst (N := 1) rfl ?_); refine box_event ?hg (N := 1) ?hd (cs := #[.string a0_0, .string a0_1]) (t := 48) ?hr ?_; (case hd => rfl); (case hg => rfl); (case hr => first | (go_simp; done) | (go_simp; rfl)); intro gb187 hg w3 hbox hb; have n0_ := Aside0.mk (below_step (by repeat (first | (with_reducible first | exact HB.out | apply y1_ | apply y2_ | apply y3_) | exact HB.out)) hb); have n1_ := Aside0.mk (hbox); have n2_ := Aside0.mk ((by rw [hg]; exact (below_size (by repeat (first | (with_reducible first | exact HB.out | apply y1_ | apply y2_ | apply y3_) | exact HB.out))) : w.heap.size ≤ gb187)); have n3_ := Aside0.mk ((by rw [hg]; exact (below_size (by repeat (first | (with_reducible first | exact HB.out | apply y1_ | apply y2_ | apply y3_) | exact HB.out))) : w.heap.size ≤ gb187)); clear HB; have HB := n0_; have BK187 := n1_; have GW187 := n2_; have GE187 := n3_; clear n0_ n1_ n2_ n3_; clear hb hbox hg; have hcz4_0 : w3.cell? ⟨gb187, 0, none⟩ = some (.string a0_0) := (blk_cell BK187.out 0).trans rfl; have hcz4_1 : w3.cell? ⟨gb187, 1, none⟩ = some (.string a0_1) := (blk_cell BK187.out 1).trans rfl; have hfz4_0 := blk_frozen BK187.out 0; have hfz4_1 := blk_frozen BK187.out 1) | ((with_reducible refine gate_callee (f := 137) rfl ?_); refine goesL_ (some 7) rfl rfl Try.func137 (by kernel_rfl) rfl #[.string a0_0, .string a0_1] rfl (by (try simp only [List.map_toArray, List.map_cons, List.map_nil]); first | done | rfl | (simp only [List.length_drop, List.length_take]; rfl)) ?_; (with_reducible refine (key_ahead.calls a0_0 a0_1 t188 _ A2.out).mono ?_); rintro e w' ⟨rfl, ⟨nd, rfl⟩⟩; refine ⟨_, rfl, ?_⟩))
  (go_ret); (exact ⟨by first | rfl | (simp [errW_none, errW_some] <;> rfl) | (simp [*, errW_none, errW_some] <;> rfl), by repeat (first | (with_reducible first | exact HB.out | apply y1_ | apply y2_ | apply y3_ | refine y4_ ?_ GE187.out) | exact HB.out)⟩)
end Go.Proofs.Ytnklnjghecmihaa.H5
-- written by a program of this session (wip/myprint.py), over the kit's printer and the session's own contracts
namespace Go.Proofs.Ytnklnjghecmihaa.H5
open Go.RowKit Go.Proofs.YtnklnjghecmihaaW.PrintWords Go.Proofs.YtnklnjghecmihaaW.PrintLast Go.Proofs.YtnklnjghecmihaaW.PrintMore Go.Proofs.YtnklnjghecmihaaW.Mine
attribute [local go_sem] max2_int min2_int max_two min_two max_three min_three max_four min_four max2_str min2_str binOp_gtr_str binOp_leq_str binOp_geq_str   -- for this text's walks alone
set_option linter.unusedVariables false
set_option linter.unusedSimpArgs false
/-! ### msg_IsPoint: function 97 -/
def msg_IsPoint.f (a0_0 : Int) (a0_1 : Int) (a0_2 : ByteArray) (a0_3 : ByteArray) (a0_4 : ByteArray) (a0_5 : Int) : Option (Bool) := if a0_0 = 1 then (some true) else (if a0_0 = 2 then (some true) else (some (a0_0 == 3)))
set_option maxHeartbeats 8000000 in
set_option maxRecDepth 100000 in
theorem msg_IsPoint.calls (a0_0 : Int) (a0_1 : Int) (a0_2 : ByteArray) (a0_3 : ByteArray) (a0_4 : ByteArray) (a0_5 : Int) (r : Bool) (w : World) (h : msg_IsPoint.f a0_0 a0_1 a0_2 a0_3 a0_4 a0_5 = some r) :
    Calls Try.prog 97 #[.agg #[.int .u8 a0_0, .int .i64 a0_1, .string a0_2, .string a0_3, .string a0_4, .int .u64 a0_5]] w fun e w' => e = .returned (.bool r) ∧ Below w.heap.size w w' := by
  (have hu46 := Try.underlying46); (have HB := Aside0.mk (Below.refl w.heap.size w)); (have H : (if a0_0 = 1 then (some true) else (if a0_0 = 2 then (some true) else (some (a0_0 == 3)))) = some r := h); (clear h); (by_cases c2 : a0_0 = 1)
  · rw [if_pos c2] at H
    (have c2b0 : (a0_0 == 1) = true := beq_iff_eq.mpr c2); (have c2b1 : (a0_0 != 1) = false := bne_eq_false_iff_eq.mpr c2); (clear c2); (obtain rfl := Option.some.inj H); (go_enter Try.func97, Try.ntmps97)
    go_wp2_with (first | ((with_reducible refine gate_dst (N := 1) rfl ?_); refine box_event ?hg (N := 1) ?hd (cs := #[.int .u8 a0_0, .int .i64 a0_1, .string a0_2, .string a0_3, .string a0_4, .int .u64 a0_5]) (t := 46) ?hr ?_; (case hd => rfl); (case hg => rfl); (case hr => first | (go_simp; done) | (go_simp; rfl)); intro gb201 hg w3 hbox hb; have n0_ := Aside0.mk (below_step (by repeat (first | (with_reducible first | exact HB.out | apply y1_ | apply y2_ | apply y3_) | exact HB.out)) hb); have n1_ := Aside0.mk (hbox); have n2_ := Aside0.mk ((by rw [hg]; exact (below_size (by repeat (first | (with_reducible first | exact HB.out | apply y1_ | apply y2_ | apply y3_) | exact HB.out))) : w.heap.size ≤ gb201)); have n3_ := Aside0.mk ((by rw [hg]; exact (below_size (by repeat (first | (with_reducible first | exact HB.out | apply y1_ | apply y2_ | apply y3_) | exact HB.out))) : w.heap.size ≤ gb201)); clear HB; have HB := n0_; have BK201 := n1_; have GW201 := n2_; have GE201 := n3_; clear n0_ n1_ n2_ n3_; clear hb hbox hg; have hcz4_0 : w3.cell? ⟨gb201, 0, none⟩ = some (.int .u8 a0_0) := (blk_cell BK201.out 0).trans rfl; have hcz4_1 : w3.cell? ⟨gb201, 1, none⟩ = some (.int .i64 a0_1) := (blk_cell BK201.out 1).trans rfl; have hcz4_2 : w3.cell? ⟨gb201, 2, none⟩ = some (.string a0_2) := (blk_cell BK201.out 2).trans rfl; have hcz4_3 : w3.cell? ⟨gb201, 3, none⟩ = some (.string a0_3) := (blk_cell BK201.out 3).trans rfl; have hcz4_4 : w3.cell? ⟨gb201, 4, none⟩ = some (.string a0_4) := (blk_cell BK201.out 4).trans rfl; have hcz4_5 : w3.cell? ⟨gb201, 5, none⟩ = some (.int .u64 a0_5) := (blk_cell BK201.out 5).trans rfl; have hfz4_0 := blk_frozen BK201.out 0; have hfz4_1 := blk_frozen BK201.out 1; have hfz4_2 := blk_frozen BK201.out 2; have hfz4_3 := blk_frozen BK201.out 3; have hfz4_4 := blk_frozen BK201.out 4; have hfz4_5 := blk_frozen BK201.out 5))
    (go_ret); (exact ⟨by first | rfl | (simp [errW_none, errW_some] <;> rfl) | (simp [*, errW_none, errW_some] <;> rfl), by repeat (first | (with_reducible first | exact HB.out | apply y1_ | apply y2_ | apply y3_ | refine y4_ ?_ GE201.out) | exact HB.out)⟩)
  · rw [if_neg c2] at H
    (have c2b0 : (a0_0 == 1) = false := beq_eq_false_iff_ne.mpr c2); (have c2b1 : (a0_0 != 1) = true := bne_iff_ne.mpr c2); (by_cases c5 : a0_0 = 2)
    · rw [if_pos c5] at H
      (have c5b0 : (a0_0 == 2) = true := beq_iff_eq.mpr c5); (have c5b1 : (a0_0 != 2) = false := bne_eq_false_iff_eq.mpr c5); (clear c5); (obtain rfl := Option.some.inj H); (go_enter Try.func97, Try.ntmps97)
      go_wp2_with (first | ((with_reducible refine gate_dst (N := 1) rfl ?_); refine box_event ?hg (N := 1) ?hd (cs := #[.int .u8 a0_0, .int .i64 a0_1, .string a0_2, .string a0_3, .string a0_4, .int .u64 a0_5]) (t := 46) ?hr ?_; (case hd => rfl); (case hg => rfl); (case hr => first | (go_simp; done) | (go_simp; rfl)); intro gb201 hg w6 hbox hb; have n0_ := Aside0.mk (below_step (by repeat (first | (with_reducible first | exact HB.out | apply y1_ | apply y2_ | apply y3_) | exact HB.out)) hb); have n1_ := Aside0.mk (hbox); have n2_ := Aside0.mk ((by rw [hg]; exact (below_size (by repeat (first | (with_reducible first | exact HB.out | apply y1_ | apply y2_ | apply y3_) | exact HB.out))) : w.heap.size ≤ gb201)); have n3_ := Aside0.mk ((by rw [hg]; exact (below_size (by repeat (first | (with_reducible first | exact HB.out | apply y1_ | apply y2_ | apply y3_) | exact HB.out))) : w.heap.size ≤ gb201)); clear HB; have HB := n0_; have BK201 := n1_; have GW201 := n2_; have GE201 := n3_; clear n0_ n1_ n2_ n3_; clear hb hbox hg; have hcz7_0 : w6.cell? ⟨gb201, 0, none⟩ = some (.int .u8 a0_0) := (blk_cell BK201.out 0).trans rfl; have hcz7_1 : w6.cell? ⟨gb201, 1, none⟩ = some (.int .i64 a0_1) := (blk_cell BK201.out 1).trans rfl; have hcz7_2 : w6.cell? ⟨gb201, 2, none⟩ = some (.string a0_2) := (blk_cell BK201.out 2).trans rfl; have hcz7_3 : w6.cell? ⟨gb201, 3, none⟩ = some (.string a0_3) := (blk_cell BK201.out 3).trans rfl; have hcz7_4 : w6.cell? ⟨gb201, 4, none⟩ = some (.string a0_4) := (blk_cell BK201.out 4).trans rfl; have hcz7_5 : w6.cell? ⟨gb201, 5, none⟩ = some (.int .u64 a0_5) := (blk_cell BK201.out 5).trans rfl; have hfz7_0 := blk_frozen BK201.out 0; have hfz7_1 := blk_frozen BK201.out 1; have hfz7_2 := blk_frozen BK201.out 2; have hfz7_3 := blk_frozen BK201.out 3; have hfz7_4 := blk_frozen BK201.out 4; have hfz7_5 := blk_frozen BK201.out 5))
      (go_ret); (exact ⟨by first | rfl | (simp [errW_none, errW_some] <;> rfl) | (simp [*, errW_none, errW_some] <;> rfl), by repeat (first | (with_reducible first | exact HB.out | apply y1_ | apply y2_ | apply y3_ | refine y4_ ?_ GE201.out) | exact HB.out)⟩)
    · rw [if_neg c5] at H
      (have c5b0 : (a0_0 == 2) = false := beq_eq_false_iff_ne.mpr c5); (have c5b1 : (a0_0 != 2) = true := bne_iff_ne.mpr c5); (obtain rfl := Option.some.inj H); (go_enter Try.func97, Try.ntmps97)
      go_wp2_with (first | ((with_reducible refine gate_dst (N := 1) rfl ?_); refine box_event ?hg (N := 1) ?hd (cs := #[.int .u8 a0_0, .int .i64 a0_1, .string a0_2, .string a0_3, .string a0_4, .int .u64 a0_5]) (t := 46) ?hr ?_; (case hd => rfl); (case hg => rfl); (case hr => first | (go_simp; done) | (go_simp; rfl)); intro gb201 hg w8 hbox hb; have n0_ := Aside0.mk (below_step (by repeat (first | (with_reducible first | exact HB.out | apply y1_ | apply y2_ | apply y3_) | exact HB.out)) hb); have n1_ := Aside0.mk (hbox); have n2_ := Aside0.mk ((by rw [hg]; exact (below_size (by repeat (first | (with_reducible first | exact HB.out | apply y1_ | apply y2_ | apply y3_) | exact HB.out))) : w.heap.size ≤ gb201)); have n3_ := Aside0.mk ((by rw [hg]; exact (below_size (by repeat (first | (with_reducible first | exact HB.out | apply y1_ | apply y2_ | apply y3_) | exact HB.out))) : w.heap.size ≤ gb201)); clear HB; have HB := n0_; have BK201 := n1_; have GW201 := n2_; have GE201 := n3_; clear n0_ n1_ n2_ n3_; clear hb hbox hg; have hcz9_0 : w8.cell? ⟨gb201, 0, none⟩ = some (.int .u8 a0_0) := (blk_cell BK201.out 0).trans rfl; have hcz9_1 : w8.cell? ⟨gb201, 1, none⟩ = some (.int .i64 a0_1) := (blk_cell BK201.out 1).trans rfl; have hcz9_2 : w8.cell? ⟨gb201, 2, none⟩ = some (.string a0_2) := (blk_cell BK201.out 2).trans rfl; have hcz9_3 : w8.cell? ⟨gb201, 3, none⟩ = some (.string a0_3) := (blk_cell BK201.out 3).trans rfl; have hcz9_4 : w8.cell? ⟨gb201, 4, none⟩ = some (.string a0_4) := (blk_cell BK201.out 4).trans rfl; have hcz9_5 : w8.cell? ⟨gb201, 5, none⟩ = some (.int .u64 a0_5) := (blk_cell BK201.out 5).trans rfl; have hfz9_0 := blk_frozen BK201.out 0; have hfz9_1 := blk_frozen BK201.out 1; have hfz9_2 := blk_frozen BK201.out 2; have hfz9_3 := blk_frozen BK201.out 3; have hfz9_4 := blk_frozen BK201.out 4; have hfz9_5 := blk_frozen BK201.out 5))
      (go_ret); (exact ⟨by first | rfl | (simp [errW_none, errW_some] <;> rfl) | (simp [*, errW_none, errW_some] <;> rfl), by repeat (first | (with_reducible first | exact HB.out | apply y1_ | apply y2_ | apply y3_ | refine y4_ ?_ GE201.out) | exact HB.out)⟩)
end Go.Proofs.Ytnklnjghecmihaa.H5
-- written by a program of this session (wip/myprint.py), over the kit's printer and the session's own contracts
namespace Go.Proofs.Ytnklnjghecmihaa.H5
open Go.RowKit Go.Proofs.YtnklnjghecmihaaW.PrintWords Go.Proofs.YtnklnjghecmihaaW.PrintLast Go.Proofs.YtnklnjghecmihaaW.PrintMore Go.Proofs.YtnklnjghecmihaaW.Mine
attribute [local go_sem] max2_int min2_int max_two min_two max_three min_three max_four min_four max2_str min2_str binOp_gtr_str binOp_leq_str binOp_geq_str   -- for this text's walks alone
set_option linter.unusedVariables false
set_option linter.unusedSimpArgs false
/-! ### key_After: function 160 -/
def key_After.f (a0 : ByteArray) : Option (ByteArray) := if a0.size + 1 ≤ 9223372036854775807 then (some (a0 ++ (⟨#[0]⟩ : ByteArray))) else (none)
set_option maxHeartbeats 8000000 in
set_option maxRecDepth 100000 in
theorem key_After.calls (a0 : ByteArray) (r : ByteArray) (w : World) (h : key_After.f a0 = some r) :
    Calls Try.prog 160 #[.string a0] w fun e w' => e = .returned (.string r) ∧ Drawn0 w w' := by
  (have H : (if a0.size + 1 ≤ 9223372036854775807 then (some (a0 ++ (⟨#[0]⟩ : ByteArray))) else (none)) = some r := h); (clear h); (by_cases c2 : a0.size + 1 ≤ 9223372036854775807)
  · rw [if_pos c2] at H
    (have c2b0 := eq_true c2); (have c2b1 : decide (a0.size + 1 ≤ 9223372036854775807) = true := decide_eq_true c2); (try have c2b2 : (9223372036854775807 < a0.size + 1) = False := eq_false (Nat.not_lt.2 c2)); (obtain rfl := Option.some.inj H); (go_enter Try.func160, Try.ntmps160); (go_wp2); (go_ret); (exact ⟨by first | rfl | (simp; done) | (simp [*]; done), by repeat (first | exact Drawn0.refl _ | apply Drawn0.step)⟩)
  · rw [if_neg c2] at H
    exact absurd H (by simp)
end Go.Proofs.Ytnklnjghecmihaa.H5
-- written by a program of this session (wip/myprint.py), over the kit's printer and the session's own contracts
namespace Go.Proofs.Ytnklnjghecmihaa.H5
open Go.RowKit Go.Proofs.YtnklnjghecmihaaW.PrintWords Go.Proofs.YtnklnjghecmihaaW.PrintLast Go.Proofs.YtnklnjghecmihaaW.PrintMore Go.Proofs.YtnklnjghecmihaaW.Mine
attribute [local go_sem] max2_int min2_int max_two min_two max_three min_three max_four min_four max2_str min2_str binOp_gtr_str binOp_leq_str binOp_geq_str   -- for this text's walks alone
set_option linter.unusedVariables false
set_option linter.unusedSimpArgs false
/-! ### key_Point: function 138 -/
def key_Point.f (a0 : ByteArray) : Option (ByteArray × ByteArray) := (key_After.f a0).bind fun t203 => (some (a0, t203))
set_option maxHeartbeats 8000000 in
set_option maxRecDepth 100000 in
theorem key_Point.calls (a0 : ByteArray) (r1 : ByteArray) (r2 : ByteArray) (w : World) (h : key_Point.f a0 = some (r1, r2)) :
    Calls Try.prog 138 #[.string a0] w fun e w' => e = .returned (.agg #[.string r1, .string r2]) ∧ Below w.heap.size w w' := by
  (have hu48 := Try.underlying48); (have HB := Aside0.mk (Below.refl w.heap.size w)); (have H : ((key_After.f a0).bind fun t203 => (some (a0, t203))) = some (r1, r2) := h); (clear h); (replace H := Option.bind_eq_some_iff.mp H); (obtain ⟨t203, A20, H⟩ := H); (replace H : (some (a0, t203)) = some (r1, r2) := H); (have A2 := Aside0.mk A20); (clear A20); (simp only [Option.some.injEq, Prod.mk.injEq] at H); (obtain ⟨rfl, rfl⟩ := H); (go_enter Try.func138, Try.ntmps138)
  go_wp2_with (first | ((with_reducible refine gate_dst (N := 2) rfl ?_); refine box_event ?hg (N := 2) ?hd (cs := #[.string (⟨#[]⟩ : ByteArray), .string (⟨#[]⟩ : ByteArray)]) (t := 48) ?hr ?_; (case hd => rfl); (case hg => rfl); (case hr => first | (go_simp; done) | (go_simp; rfl)); intro gb202 hg w3 hbox hb; have n0_ := Aside0.mk (below_step (by repeat (first | (with_reducible first | exact HB.out | apply y1_ | apply y2_ | apply y3_) | exact HB.out)) hb); have n1_ := Aside0.mk (hbox); have n2_ := Aside0.mk ((by rw [hg]; exact (below_size (by repeat (first | (with_reducible first | exact HB.out | apply y1_ | apply y2_ | apply y3_) | exact HB.out))) : w.heap.size ≤ gb202)); have n3_ := Aside0.mk ((by rw [hg]; exact (below_size (by repeat (first | (with_reducible first | exact HB.out | apply y1_ | apply y2_ | apply y3_) | exact HB.out))) : w.heap.size ≤ gb202)); clear HB; have HB := n0_; have BK202 := n1_; have GW202 := n2_; have GE202 := n3_; clear n0_ n1_ n2_ n3_; clear hb hbox hg) | ((with_reducible refine gate_callee (f := 160) rfl ?_); refine goesL_ (some 5) rfl rfl Try.func160 (by kernel_rfl) rfl #[.string a0] rfl (by (try simp only [List.map_toArray, List.map_cons, List.map_nil]); first | done | rfl | (simp only [List.length_drop, List.length_take]; rfl)) ?_; (with_reducible refine (key_After.calls a0 t203 _ A2.out).mono ?_); rintro e w' ⟨rfl, ⟨nd, rfl⟩⟩; refine ⟨_, rfl, ?_⟩; (try (rw [drewN_self w3]; generalize hq_ : World.drewN w3 _ = w3; have n0_ : Aside0 (w3.heap[gb202]? = some (.cells #[.string (⟨#[]⟩ : ByteArray), .string (⟨#[]⟩ : ByteArray)] 48 (0, 0))) := ⟨by rw [← hq_]; exact (by (with_reducible repeat (first | refine z1_ ?_ _ | refine z2_ ?_ | refine z3_ ?_ _)); exact BK202.out)⟩; have n1_ : Aside0 (Below w.heap.size w w3) := ⟨by rw [← hq_]; exact (by repeat (first | (with_reducible first | exact HB.out | apply y1_ | apply y2_ | apply y3_ | refine y4_ ?_ GE202.out) | exact HB.out))⟩; clear BK202 HB hq_; have BK202 := n0_; have HB := n1_; clear n0_ n1_)); have hcz4_0 : w3.cell? ⟨gb202, 0, none⟩ = some (.string (⟨#[]⟩ : ByteArray)) := (blk_cell BK202.out 0).trans rfl; have hcz4_1 : w3.cell? ⟨gb202, 1, none⟩ = some (.string (⟨#[]⟩ : ByteArray)) := (blk_cell BK202.out 1).trans rfl; have hfz4_0 := blk_frozen BK202.out 0; have hfz4_1 := blk_frozen BK202.out 1))
  (refine bodyPost_ret (results_cell_row rfl _ _ gb202 48 #[.string a0, .string t203] (0, 0) _ rfl (by (with_reducible repeat (first | refine z1_ ?_ _ | refine z2_ ?_ | refine z3_ ?_ _)); refine blk_put (cs := #[.string a0, .string (⟨#[]⟩ : ByteArray)]) ?_ 1 _ rfl; (with_reducible repeat (first | refine z1_ ?_ _ | refine z2_ ?_ | refine z3_ ?_ _)); refine blk_put (cs := #[.string (⟨#[]⟩ : ByteArray), .string (⟨#[]⟩ : ByteArray)]) ?_ 0 _ rfl; (with_reducible repeat (first | refine z1_ ?_ _ | refine z2_ ?_ | refine z3_ ?_ _)); exact BK202.out) Try.underlying48 rfl (by kernel_rfl)) rfl ?_); (exact ⟨by first | rfl | (simp [errW_none, errW_some] <;> rfl) | (simp [*, errW_none, errW_some] <;> rfl), by repeat (first | (with_reducible first | exact HB.out | apply y1_ | apply y2_ | apply y3_ | refine y4_ ?_ GE202.out) | exact HB.out)⟩)
end Go.Proofs.Ytnklnjghecmihaa.H5
-- written by a program of this session (wip/myprint.py), over the kit's printer and the session's own contracts
namespace Go.Proofs.Ytnklnjghecmihaa.H5
open Go.RowKit Go.Proofs.YtnklnjghecmihaaW.PrintWords Go.Proofs.YtnklnjghecmihaaW.PrintLast Go.Proofs.YtnklnjghecmihaaW.PrintMore Go.Proofs.YtnklnjghecmihaaW.Mine
attribute [local go_sem] max2_int min2_int max_two min_two max_three min_three max_four min_four max2_str min2_str binOp_gtr_str binOp_leq_str binOp_geq_str   -- for this text's walks alone
set_option linter.unusedVariables false
set_option linter.unusedSimpArgs false
/-! ### word_Take: function 171 -/
def word_Take.l0 : Nat → ByteArray → Int → Int → Int → Option (Int × Bool)
  | 0, _, _, _, _ => none
  | k + 1, x0, x4, x10, x11 => if x11 < x10 then (if 0 ≤ x11 then (if x11 < (x0.size : Int) then (word_Take.l0 k x0 (Go.bits .or .u64 (IntKind.u64.wrap (x4 * 256)) (IntKind.u64.wrap (bt x0 x11))) x10 (wrap64 (x11 + 1))) else (none)) else (none)) else (some (x4, true))
def word_Take.f (k : Nat) (a0 : ByteArray) : Option (Int × Bool) := if (a0.size : Int) = 8 then (word_Take.l0 k a0 0 (a0.size : Int) 0) else (some (0, false))
theorem word_Take.mono_l : ∀ k, (∀ y0 y1 y2 y3, LeO (word_Take.l0 k y0 y1 y2 y3) (word_Take.l0 (k + 1) y0 y1 y2 y3))
  | 0 => fun _ _ _ _ r h => by simp [word_Take.l0] at h
  | k + 1 => by
    have ih0 := word_Take.mono_l k
    · intro y0 y1 y2 y3
      unfold word_Take.l0
      repeat' first
      | (with_reducible exact ih0 _ _ _ _)
      | (with_reducible exact LeO.refl _)
      | (with_reducible exact LeO.none _)
      | (with_reducible refine LeO.ite ?_ ?_)
      | (with_reducible refine LeO.bind ?_ (fun _ => ?_))
      | exact ih0 _ _ _ _
      | exact LeO.none _
      | refine LeO.ite ?_ ?_
      | refine LeO.bind ?_ (fun _ => ?_)
theorem word_Take.mono : ∀ a0 k, LeO (word_Take.f k a0) (word_Take.f (k + 1) a0) := by
  (intro a0 k); (have ih0 := word_Take.mono_l k); (unfold word_Take.f)
  repeat' first
      | (with_reducible exact ih0 _ _ _ _)
      | (with_reducible exact LeO.refl _)
      | (with_reducible exact LeO.none _)
      | (with_reducible refine LeO.ite ?_ ?_)
      | (with_reducible refine LeO.bind ?_ (fun _ => ?_))
      | exact ih0 _ _ _ _
      | exact LeO.none _
      | refine LeO.ite ?_ ?_
      | refine LeO.bind ?_ (fun _ => ?_)
set_option maxHeartbeats 8000000 in
set_option maxRecDepth 100000 in
theorem word_Take.calls (k : Nat) (a0 : ByteArray) (r1 : Int) (r2 : Bool) (w : World) (h : word_Take.f k a0 = some (r1, r2)) :
    Calls Try.prog 171 #[.string a0] w fun e w' => e = .returned (.tuple #[.int .u64 r1, .bool r2]) ∧ Drawn0 w w' := by
  (have H : (if (a0.size : Int) = 8 then (word_Take.l0 k a0 0 (a0.size : Int) 0) else (some (0, false))) = some (r1, r2) := h); (clear h); (by_cases c2 : (a0.size : Int) = 8)
  · rw [if_pos c2] at H
    (have c2b0 : ((a0.size : Int) == 8) = true := beq_iff_eq.mpr c2); (have c2b1 : ((a0.size : Int) != 8) = false := bne_eq_false_iff_eq.mpr c2); (clear c2); (have H' := Aside0.mk H); (clear H); (go_enter Try.func171, Try.ntmps171); (go_wp2); (go_loopg [4, 11] k (fun kq v4 v11 w' => ∃ (x4_1 : Int) (x11_1 : Int), v4 = .int .u64 x4_1 ∧ v11 = .int .i64 x11_1 ∧ Aside0 (word_Take.l0 kq a0 x4_1 (a0.size : Int) x11_1 = some (r1, r2)) ∧ Aside0 (kq ≤ k) ∧ Drawn0 w w'))
    case atStart => exact ⟨(0), (0), (by first | rfl | (simp; done) | (simp [*]; done)), (by first | rfl | (simp; done) | (simp [*]; done)), H', ⟨Nat.le_refl _⟩, by repeat (first | exact Drawn0.refl _ | apply Drawn0.step)⟩
    case round =>
      (clear H'); (try clear c1); (try clear c2); (try clear c2b0); (try clear c2b1); (try clear p2); (obtain ⟨x4_1, x11_1, rfl, rfl, HA, HK1, ⟨m1, rfl⟩⟩ := hrel)
      cases gk with
      | zero => exact absurd HA.out (by simp [word_Take.l0])
      | succ k1 =>
        (have H := HA.out); (clear HA); (simp only [word_Take.l0] at H); (by_cases c3 : x11_1 < (a0.size : Int))
        · rw [if_pos c3] at H
          (have c3b0 : decide (x11_1 < (a0.size : Int)) = true := decide_eq_true c3); (clear c3); (by_cases c4 : 0 ≤ x11_1)
          · rw [if_pos c4] at H
            (have c4b0 : decide (0 ≤ x11_1) = true := decide_eq_true c4); (clear c4); (by_cases c5 : x11_1 < (a0.size : Int))
            · rw [if_pos c5] at H
              (have c5b0 : decide (x11_1 < (a0.size : Int)) = true := decide_eq_true c5); (clear c5); (have H' := Aside0.mk H); (clear H); (have p6 : 0 ≤ (x11_1 : Int) := of_decide_eq_true (by first | (with_reducible assumption) | assumption)); (have q6 : x11_1 < (a0.size : Int) := of_decide_eq_true (by first | (with_reducible assumption) | assumption)); (have hx6 := bt_at a0 x11_1); (replace p6 := eq_true p6); (replace q6 := eq_true q6); (go_wp2); (go_roundg k1)
              case measure => have := HK1.out; omega
              case rel => exact ⟨(Go.bits .or .u64 (IntKind.u64.wrap (x4_1 * 256)) (IntKind.u64.wrap (bt a0 x11_1))), (wrap64 (x11_1 + 1)), (by first | rfl | (simp; done) | (simp [*]; done)), (by first | rfl | (simp; done) | (simp [*]; done)), H', ⟨by have := HK1.out; omega⟩, by repeat (first | exact Drawn0.refl _ | apply Drawn0.step)⟩
            · rw [if_neg c5] at H
              exact absurd H (by simp)
          · rw [if_neg c4] at H
            exact absurd H (by simp)
        · rw [if_neg c3] at H
          (have c3b0 : decide (x11_1 < (a0.size : Int)) = false := decide_eq_false c3); (clear c3); (simp only [Option.some.injEq, Prod.mk.injEq] at H); (obtain ⟨rfl, rfl⟩ := H); (go_wp2); (go_ret2); (exact ⟨by first | rfl | (simp; done) | (simp [*]; done), by repeat (first | exact Drawn0.refl _ | apply Drawn0.step)⟩)
  · rw [if_neg c2] at H
    (have c2b0 : ((a0.size : Int) == 8) = false := beq_eq_false_iff_ne.mpr c2); (have c2b1 : ((a0.size : Int) != 8) = true := bne_iff_ne.mpr c2); (simp only [Option.some.injEq, Prod.mk.injEq] at H); (obtain ⟨rfl, rfl⟩ := H); (go_enter Try.func171, Try.ntmps171); (go_wp2); (go_ret2); (exact ⟨by first | rfl | (simp; done) | (simp [*]; done), by repeat (first | exact Drawn0.refl _ | apply Drawn0.step)⟩)
end Go.Proofs.Ytnklnjghecmihaa.H5
-- written by a program of this session (wip/myprint.py), over the kit's printer and the session's own contracts
namespace Go.Proofs.Ytnklnjghecmihaa.H5
open Go.RowKit Go.Proofs.YtnklnjghecmihaaW.PrintWords Go.Proofs.YtnklnjghecmihaaW.PrintLast Go.Proofs.YtnklnjghecmihaaW.PrintMore Go.Proofs.YtnklnjghecmihaaW.Mine
attribute [local go_sem] max2_int min2_int max_two min_two max_three min_three max_four min_four max2_str min2_str binOp_gtr_str binOp_leq_str binOp_geq_str   -- for this text's walks alone
set_option linter.unusedVariables false
set_option linter.unusedSimpArgs false
/-! ### word_Put: function 172 -/
def word_Put.nums (a0 : Int) : List Int := [a0 / 72057594037927936 % 256, a0 / 281474976710656 % 256, a0 / 1099511627776 % 256, a0 / 4294967296 % 256, a0 / 16777216 % 256, a0 / 65536 % 256, a0 / 256 % 256, a0 % 256]
def word_Put.f (a0 : Int) : Option (ByteArray) := some (strOfNums (word_Put.nums a0))
theorem word_Put.eight (w : World) (t : TypeId) (x0 x1 x2 x3 x4 x5 x6 x7 : Int) :
    (Kd.int .u8).C (w.alloc (.cells #[.int .u8 x0, .int .u8 x1, .int .u8 x2, .int .u8 x3, .int .u8 x4, .int .u8 x5, .int .u8 x6, .int .u8 x7] t)) (some ⟨w.heap.size, 0, none⟩) 8 [x0, x1, x2, x3, x4, x5, x6, x7] := by
  refine ⟨rfl, by decide, fun _ => ⟨_, rfl, ?_⟩⟩
  intro j p hp
  have hj : j < 8 := (List.getElem?_eq_some_iff.1 hp).1
  refine ⟨[.int .u8 p], rfl, rfl, ?_⟩
  intro i u hu
  have hi : i = 0 := by
    have := (List.getElem?_eq_some_iff.1 hu).1
    simpa using this
  subst hi
  obtain rfl : Value.int .u8 p = u := by simpa using hu
  have hc : ∀ (cs : Array Value) (i : Nat), (w.alloc (.cells cs t)).cell? ⟨w.heap.size, i, none⟩ = cs[i]? := by
    intro cs i
    exact World.cell?_alloc_at cs t _ i rfl
  have ha : (⟨w.heap.size, 0, none⟩ : Addr).add (j * (Kd.int .u8).sz + 0) = ⟨w.heap.size, j, none⟩ := by
    show (⟨w.heap.size, 0, none⟩ : Addr).add (j * 1 + 0) = _
    unfold Addr.add
    split
    · have : j = 0 := by omega
      subst this
      rfl
    · simp
  rw [ha, hc]
  match j, hj with
  | 0, _ | 1, _ | 2, _ | 3, _ | 4, _ | 5, _ | 6, _ | 7, _ =>
    obtain rfl := Option.some.inj hp
    rfl
set_option maxHeartbeats 4000000 in
set_option maxRecDepth 100000 in
theorem word_Put.calls (a0 : Int) (r : ByteArray) (w : World) (h : word_Put.f a0 = some r) :
    Calls Try.prog 172 #[.int .u64 a0] w fun e w' => e = .returned (.string r) ∧ Below w.heap.size w w' := by
  have H := Aside0.mk (Option.some.inj h)
  clear h
  go_enter Try.func172, Try.ntmps172
  go_wp2
  refine wp_loop_rounds 9 ?_
  iterate 9 (rw [rounds_succ]; go_wp2)
  rw [Kd.C_string (xs := word_Put.nums a0) (e := 5) Try.underlying114 Try.underlying5 Try.underlying9 (word_Put.eight w 204 _ _ _ _ _ _ _ _)]
  simp only [Result.andThen]
  rw [Oper.upon_value]
  go_wp2
  go_ret
  go_light
  exact ⟨by rw [← H.out]; rfl, (Below.refl _ _).alloc (Nat.le_refl _) _⟩
end Go.Proofs.Ytnklnjghecmihaa.H5
-- written by a program of this session (wip/myprint.py), over the kit's printer and the session's own contracts
namespace Go.Proofs.Ytnklnjghecmihaa.H5
open Go.RowKit Go.Proofs.YtnklnjghecmihaaW.PrintWords Go.Proofs.YtnklnjghecmihaaW.PrintLast Go.Proofs.YtnklnjghecmihaaW.PrintMore Go.Proofs.YtnklnjghecmihaaW.Mine
attribute [local go_sem] max2_int min2_int max_two min_two max_three min_three max_four min_four max2_str min2_str binOp_gtr_str binOp_leq_str binOp_geq_str   -- for this text's walks alone
set_option linter.unusedVariables false
set_option linter.unusedSimpArgs false
/-! ### word_Add: function 152 -/
def word_Add.f (k : Nat) (a0 : ByteArray) (a1 : Bool) (a2 : Int) : Option (ByteArray) := (word_Take.f k a0).bind fun bt209 => (if a1 = true then (if bt209.2 = true then ((word_Put.f (IntKind.u64.wrap (bt209.1 + a2))).bind fun t211 => (some t211)) else (some a0)) else ((word_Put.f a2).bind fun t212 => (some t212)))
theorem word_Add.mono : ∀ a0 a1 a2 k, LeO (word_Add.f k a0 a1 a2) (word_Add.f (k + 1) a0 a1 a2) := by
  (intro a0 a1 a2 k); (unfold word_Add.f)
  repeat' first
      | (with_reducible exact word_Take.mono _ _)
      | (with_reducible exact LeO.refl _)
      | (with_reducible exact LeO.none _)
      | (with_reducible refine LeO.ite ?_ ?_)
      | (with_reducible refine LeO.bind ?_ (fun _ => ?_))
      | exact word_Take.mono _ _
      | exact LeO.none _
      | refine LeO.ite ?_ ?_
      | refine LeO.bind ?_ (fun _ => ?_)
set_option maxHeartbeats 8000000 in
set_option maxRecDepth 100000 in
theorem word_Add.calls (k : Nat) (a0 : ByteArray) (a1 : Bool) (a2 : Int) (r : ByteArray) (w : World) (h : word_Add.f k a0 a1 a2 = some r) :
    Calls Try.prog 152 #[.string a0, .bool a1, .int .u64 a2] w fun e w' => e = .returned (.string r) ∧ Below w.heap.size w w' := by
  (have HB := Aside0.mk (Below.refl w.heap.size w)); (have H : ((word_Take.f k a0).bind fun bt209 => (if a1 = true then (if bt209.2 = true then ((word_Put.f (IntKind.u64.wrap (bt209.1 + a2))).bind fun t211 => (some t211)) else (some a0)) else ((word_Put.f a2).bind fun t212 => (some t212)))) = some r := h); (clear h); (replace H := Option.bind_eq_some_iff.mp H); (obtain ⟨⟨t209, t210⟩, A40, H⟩ := H); (replace H : (if a1 = true then (if t210 = true then ((word_Put.f (IntKind.u64.wrap (t209 + a2))).bind fun t211 => (some t211)) else (some a0)) else ((word_Put.f a2).bind fun t212 => (some t212))) = some r := H); (have A4 := Aside0.mk A40); (clear A40); (by_cases c5 : a1 = true)
  · subst c5
    (have H1 : (if t210 = true then ((word_Put.f (IntKind.u64.wrap (t209 + a2))).bind fun t211 => (some t211)) else (some a0)) = some r := by rw [if_pos rfl] at H; exact H); (clear H); (have H := H1); (clear H1); (by_cases c6 : t210 = true)
    · subst c6
      (have H1 : ((word_Put.f (IntKind.u64.wrap (t209 + a2))).bind fun t211 => (some t211)) = some r := by rw [if_pos rfl] at H; exact H); (clear H); (have H := H1); (clear H1); (replace H := Option.bind_eq_some_iff.mp H); (obtain ⟨t211, A70, H⟩ := H); (replace H : (some t211) = some r := H); (have A7 := Aside0.mk A70); (clear A70); (obtain rfl := Option.some.inj H); (go_enter Try.func152, Try.ntmps152)
      (go_wp2_with (first | ((with_reducible refine gate_callee (f := 171) rfl ?_); refine goesL_ (some 11) rfl rfl Try.func171 (by kernel_rfl) rfl #[.string a0] rfl (by (try simp only [List.map_toArray, List.map_cons, List.map_nil]); first | done | rfl | (simp only [List.length_drop, List.length_take]; rfl)) ?_; (with_reducible refine (word_Take.calls k a0 t209 true _ A4.out).mono ?_); rintro e w' ⟨rfl, ⟨nd, rfl⟩⟩; refine ⟨_, rfl, ?_⟩) | ((with_reducible refine gate_callee (f := 172) rfl ?_); refine goesL_ (some 24) rfl rfl Try.func172 (by kernel_rfl) rfl #[.int .u64 (IntKind.u64.wrap (t209 + a2))] rfl (by (try simp only [List.map_toArray, List.map_cons, List.map_nil]); first | done | rfl | (simp only [List.length_drop, List.length_take]; rfl)) ?_; (with_reducible refine (word_Put.calls (IntKind.u64.wrap (t209 + a2)) t211 _ A7.out).mono ?_); rintro e w8 ⟨rfl, hb⟩; refine ⟨_, rfl, ?_⟩; have n0_ := Aside0.mk (below_step (by repeat (first | (with_reducible first | exact HB.out | apply y1_ | apply y2_ | apply y3_) | exact HB.out)) hb); clear HB; have HB := n0_; clear n0_; (try clear hb); (try clear hb2); (try clear hk); (try clear hi)))); (go_ret)
      exact ⟨by first | rfl | (simp [errW_none, errW_some] <;> rfl) | (simp [*, errW_none, errW_some] <;> rfl), by repeat (first | (with_reducible first | exact HB.out | apply y1_ | apply y2_ | apply y3_) | exact HB.out)⟩
    · replace c6 := Bool.eq_false_iff.mpr c6
      (subst c6); (have H1 : (some a0) = some r := by rw [if_neg (show ¬ (false = true) by decide)] at H; exact H); (clear H); (have H := H1); (clear H1); (obtain rfl := Option.some.inj H); (go_enter Try.func152, Try.ntmps152); (go_wp2_with (first | ((with_reducible refine gate_callee (f := 171) rfl ?_); refine goesL_ (some 11) rfl rfl Try.func171 (by kernel_rfl) rfl #[.string a0] rfl (by (try simp only [List.map_toArray, List.map_cons, List.map_nil]); first | done | rfl | (simp only [List.length_drop, List.length_take]; rfl)) ?_; (with_reducible refine (word_Take.calls k a0 t209 false _ A4.out).mono ?_); rintro e w' ⟨rfl, ⟨nd, rfl⟩⟩; refine ⟨_, rfl, ?_⟩))); (go_ret); (exact ⟨by first | rfl | (simp [errW_none, errW_some] <;> rfl) | (simp [*, errW_none, errW_some] <;> rfl), by repeat (first | (with_reducible first | exact HB.out | apply y1_ | apply y2_ | apply y3_) | exact HB.out)⟩)
  · replace c5 := Bool.eq_false_iff.mpr c5
    (subst c5); (have H1 : ((word_Put.f a2).bind fun t212 => (some t212)) = some r := by rw [if_neg (show ¬ (false = true) by decide)] at H; exact H); (clear H); (have H := H1); (clear H1); (replace H := Option.bind_eq_some_iff.mp H); (obtain ⟨t212, A90, H⟩ := H); (replace H : (some t212) = some r := H); (have A9 := Aside0.mk A90); (clear A90); (obtain rfl := Option.some.inj H); (go_enter Try.func152, Try.ntmps152)
    (go_wp2_with (first | ((with_reducible refine gate_callee (f := 171) rfl ?_); refine goesL_ (some 11) rfl rfl Try.func171 (by kernel_rfl) rfl #[.string a0] rfl (by (try simp only [List.map_toArray, List.map_cons, List.map_nil]); first | done | rfl | (simp only [List.length_drop, List.length_take]; rfl)) ?_; (with_reducible refine (word_Take.calls k a0 t209 t210 _ A4.out).mono ?_); rintro e w' ⟨rfl, ⟨nd, rfl⟩⟩; refine ⟨_, rfl, ?_⟩) | ((with_reducible refine gate_callee (f := 172) rfl ?_); refine goesL_ (some 18) rfl rfl Try.func172 (by kernel_rfl) rfl #[.int .u64 a2] rfl (by (try simp only [List.map_toArray, List.map_cons, List.map_nil]); first | done | rfl | (simp only [List.length_drop, List.length_take]; rfl)) ?_; (with_reducible refine (word_Put.calls a2 t212 _ A9.out).mono ?_); rintro e w10 ⟨rfl, hb⟩; refine ⟨_, rfl, ?_⟩; have n0_ := Aside0.mk (below_step (by repeat (first | (with_reducible first | exact HB.out | apply y1_ | apply y2_ | apply y3_) | exact HB.out)) hb); clear HB; have HB := n0_; clear n0_; (try clear hb); (try clear hb2); (try clear hk); (try clear hi)))); (go_ret)
    exact ⟨by first | rfl | (simp [errW_none, errW_some] <;> rfl) | (simp [*, errW_none, errW_some] <;> rfl), by repeat (first | (with_reducible first | exact HB.out | apply y1_ | apply y2_ | apply y3_) | exact HB.out)⟩
end Go.Proofs.Ytnklnjghecmihaa.H5

