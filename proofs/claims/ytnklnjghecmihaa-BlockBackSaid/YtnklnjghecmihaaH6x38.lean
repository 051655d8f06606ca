-- written by a program of this session (wip/myprint.py), over the kit's printer and the session's own contracts
import Derived.Test.YtnklnjghecmihaaH6x0
import Derived.Test.YtnklnjghecmihaaH6x11
import Derived.Test.YtnklnjghecmihaaH6x20
import Derived.Test.YtnklnjghecmihaaH6x21
import Derived.Test.YtnklnjghecmihaaH6x29
import Derived.Test.YtnklnjghecmihaaH6x34
import Derived.Test.YtnklnjghecmihaaH6x37
namespace Go.Proofs.Ytnklnjghecmihaa.H6
open Go.RowKit Go.Proofs.YtnklnjghecmihaaW.PrintWords Go.Proofs.YtnklnjghecmihaaW.PrintLast Go.Proofs.YtnklnjghecmihaaW.PrintMore Go.Proofs.YtnklnjghecmihaaW.Mine
attribute [local go_sem] max2_int min2_int max_two min_two max_three min_three max_four min_four max2_str min2_str binOp_gtr_str binOp_leq_str binOp_geq_str   -- for this text's walks alone
set_option linter.unusedVariables false
set_option linter.unusedSimpArgs false

/-! ### catchmentlaw10_BlockPacks: function 3 -/
def catchmentlaw10_BlockPacks.l0 : Nat → List (S25) → ByteArray → Int → Option (Bool)
  | 0, _, _, _ => none
  | k + 1, x0, x1, x5 => if x5 < (x0.length : Int) then (if 0 ≤ x5 then (if (((rd_T25 x0 x5).f0).size : Int) > 4000 then ((catchmentlaw10_live.f k).bind fun t212 => (some t212)) else (if (((rd_T25 x0 x5).f1).size : Int) > 4000 then ((catchmentlaw10_live.f k).bind fun t213 => (some t213)) else (catchmentlaw10_BlockPacks.l0 k x0 x1 (wrap64 (x5 + 1))))) else (none)) else (if (x1.size : Int) > 4000 then ((catchmentlaw10_live.f k).bind fun t214 => (some t214)) else ((block_Unpack.f k x1).bind fun bt215 => ((catchmentref10_Unpack.f k x1).bind fun bt219 => ((catchmentlaw10_live.f k).bind fun t223 => (if t223 = true then ((block_Pack.f k x0).bind fun t224 => ((catchmentref10_Pack.f k x0).bind fun t225 => (if t224.toList = t225.toList then (if bt215.2 = bt219.2 then ((catchmentref05_Same.f k bt215.1 bt219.1).bind fun t226 => (some t226)) else (none)) else (none)))) else (none))))))
def catchmentlaw10_BlockPacks.f (k : Nat) (l0 : List (S25)) (a1 : ByteArray) : Option (Bool) := if 0 ≤ (mn (l0.length : Int) 40) then (if (mn (l0.length : Int) 40) ≤ (l0.length : Int) then (catchmentlaw10_BlockPacks.l0 k (l0.take ((mn (l0.length : Int) 40) : Int).toNat) a1 0) else (none)) else (none)
theorem catchmentlaw10_BlockPacks.mono_l : ∀ k, (∀ y0 y1 y2, LeO (catchmentlaw10_BlockPacks.l0 k y0 y1 y2) (catchmentlaw10_BlockPacks.l0 (k + 1) y0 y1 y2))
  | 0 => fun _ _ _ r h => by simp [catchmentlaw10_BlockPacks.l0] at h
  | k + 1 => by
    have ih0 := catchmentlaw10_BlockPacks.mono_l k
    · intro y0 y1 y2
      unfold catchmentlaw10_BlockPacks.l0
      repeat' first
      | (with_reducible exact ih0 _ _ _)
      | (with_reducible exact block_Pack.mono _ _)
      | (with_reducible exact block_Unpack.mono _ _)
      | (with_reducible exact catchmentlaw10_live.mono _)
      | (with_reducible exact catchmentref05_Same.mono _ _ _)
      | (with_reducible exact catchmentref10_Pack.mono _ _)
      | (with_reducible exact catchmentref10_Unpack.mono _ _)
      | (with_reducible exact LeO.refl _)
      | (with_reducible exact LeO.none _)
      | (with_reducible refine LeO.ite ?_ ?_)
      | (with_reducible refine LeO.bind ?_ (fun _ => ?_))
      | exact ih0 _ _ _
      | exact block_Pack.mono _ _
      | exact block_Unpack.mono _ _
      | exact catchmentlaw10_live.mono _
      | exact catchmentref05_Same.mono _ _ _
      | exact catchmentref10_Pack.mono _ _
      | exact catchmentref10_Unpack.mono _ _
      | exact LeO.none _
      | refine LeO.ite ?_ ?_
      | refine LeO.bind ?_ (fun _ => ?_)
theorem catchmentlaw10_BlockPacks.mono : ∀ a0 a1 k, LeO (catchmentlaw10_BlockPacks.f k a0 a1) (catchmentlaw10_BlockPacks.f (k + 1) a0 a1) := by
  intro a0 a1 k
  have ih0 := catchmentlaw10_BlockPacks.mono_l k
  unfold catchmentlaw10_BlockPacks.f
  repeat' first
      | (with_reducible exact ih0 _ _ _)
      | (with_reducible exact block_Pack.mono _ _)
      | (with_reducible exact block_Unpack.mono _ _)
      | (with_reducible exact catchmentlaw10_live.mono _)
      | (with_reducible exact catchmentref05_Same.mono _ _ _)
      | (with_reducible exact catchmentref10_Pack.mono _ _)
      | (with_reducible exact catchmentref10_Unpack.mono _ _)
      | (with_reducible exact LeO.refl _)
      | (with_reducible exact LeO.none _)
      | (with_reducible refine LeO.ite ?_ ?_)
      | (with_reducible refine LeO.bind ?_ (fun _ => ?_))
      | exact ih0 _ _ _
      | exact block_Pack.mono _ _
      | exact block_Unpack.mono _ _
      | exact catchmentlaw10_live.mono _
      | exact catchmentref05_Same.mono _ _ _
      | exact catchmentref10_Pack.mono _ _
      | exact catchmentref10_Unpack.mono _ _
      | exact LeO.none _
      | refine LeO.ite ?_ ?_
      | refine LeO.bind ?_ (fun _ => ?_)
set_option maxHeartbeats 8000000 in
set_option maxRecDepth 100000 in
theorem catchmentlaw10_BlockPacks.calls (k : Nat) (A0 : Option Addr) (c0 : Nat) (l0 : List (S25)) (a1 : ByteArray) (r : Bool) (w : World) (hr0 : Kd.C k25 w A0 l0.length l0) (hc0 : l0.length ≤ c0) (h : catchmentlaw10_BlockPacks.f k l0 a1 = some r) :
    Calls Try.prog 3 #[.slice A0 l0.length c0, .string a1] w fun e w' => e = .returned (.bool r) ∧ Below w.heap.size w w' := by
  have HR0 := Aside0.mk hr0
  have HC0 := Aside0.mk hc0
  clear hr0 hc0
  have HB := Aside0.mk (Below.refl w.heap.size w)
  have H : (if 0 ≤ (mn (l0.length : Int) 40) then (if (mn (l0.length : Int) 40) ≤ (l0.length : Int) then (catchmentlaw10_BlockPacks.l0 k (l0.take ((mn (l0.length : Int) 40) : Int).toNat) a1 0) else (none)) else (none)) = some r := h
  clear h
  obtain ⟨ji3, hji3⟩ : ∃ j_ : Int, (mn (l0.length : Int) 40) = j_ := ⟨_, rfl⟩
  replace H : (if 0 ≤ (ji3) then (if (ji3) ≤ (l0.length : Int) then (catchmentlaw10_BlockPacks.l0 k (l0.take ((ji3) : Int).toNat) a1 0) else (none)) else (none)) = some r := by first | (rw [hji3] at H; exact H) | (simp only [hji3] at H ⊢; exact H)
  (try (have hji3h : ji3 ≤ 40 := by (rw [← hji3]; unfold mn; (repeat' split) <;> omega)))
  (try (have hji3g : ji3 ≤ 64 := by omega))
  (try (have hji3l : 0 ≤ ji3 := by (rw [← hji3]; unfold mn; (repeat' split) <;> omega)))
  (try (have hji3m : 0 ≤ ji3 := by omega))
  have hji3_ : (if 40 < (l0.length : Int) then 40 else (l0.length : Int)) = ji3 := hji3
  (try (have hji3n : (if 40 < l0.length then (40 : Int) else (l0.length : Int)) = ji3 := by (rw [← hji3]; unfold mn; (repeat' split) <;> omega)))
  by_cases c4 : 0 ≤ (ji3)
  · rw [if_pos c4] at H
    have c4b0 := eq_true c4
    have c4b1 : decide (0 ≤ (ji3)) = true := decide_eq_true c4
    clear c4
    by_cases c5 : (ji3) ≤ (l0.length : Int)
    · rw [if_pos c5] at H
      have c5b0 := eq_true c5
      have c5b1 : decide ((ji3) ≤ (l0.length : Int)) = true := decide_eq_true c5
      clear c5
      obtain ⟨y206, hy206⟩ : ∃ y_ : List (S25), y_ = (l0.take ((ji3) : Int).toNat) := ⟨_, rfl⟩
      replace H : (catchmentlaw10_BlockPacks.l0 k y206 a1 0) = some r := by first | (rw [hy206]; with_reducible exact H) | (have H2_ := (Option.bind_some _ _).symm.trans H; rw [hy206]; with_reducible exact H2_) | (have H2_ := (Option.bind_some _ _).symm.trans H; with_reducible exact H2_) | with_reducible exact H | (rw [hy206]; exact H) | exact H
      have Ny206 := Aside0.mk hy206
      clear hy206
      have H' := Aside0.mk H
      clear H
      have q6 : ((ji3) : Int) ≤ ((l0.length : Int) : Int) := of_decide_eq_true (by first | (with_reducible assumption) | assumption)
      obtain ⟨i06, hi06, _, hsz6, _⟩ := info_parts info25
      have hroom6 : l0.length ≤ c0 := HC0.out
      have hC6 : Kd.C k25 _ A0 l0.length l0 := HR0.out
      have hcut6 := cut_to (P := Try.prog) 22 25 .i64 Try.underlying22 hi06 A0 l0.length c0 (ji3) (of_decide_eq_true (by first | (with_reducible assumption) | assumption)) q6 hroom6
      have hr6 := Kd.C_take (m := ((ji3) : Int).toNat) hC6 (by omega)
      have hy6 : y206.length = ((ji3) : Int).toNat := (by rw [Ny206.out, List.length_take]; omega)
      rw [← Ny206.out] at hr6
      rw [← hy6] at hcut6
      have HR209 := Aside0.mk hr6
      have HC209 := Aside0.mk (show y206.length ≤ c0 from by omega)
      clear hr6 hC6 hroom6 hi06 hsz6
      have KY6 := Aside0.mk hy6
      clear hy6
      replace q6 := eq_true q6
      go_enter Try.func3, Try.ntmps3
      go_wp2
      go_loopg [5] k (fun kq v5 w' => ∃ (x5_1 : Int), v5 = .int .i64 x5_1 ∧ Aside0 (catchmentlaw10_BlockPacks.l0 kq y206 a1 x5_1 = some r) ∧ Aside0 (kq ≤ k) ∧ Aside0 (Below w.heap.size w w'))
      case atStart => exact ⟨(0), (by first | rfl | (simp; done) | (simp [*]; done)), H', ⟨Nat.le_refl _⟩, ⟨by repeat (first | (with_reducible first | exact HB.out | apply below_alloc | apply pw_below_drewN | apply below_drew1) | exact HB.out)⟩⟩
      case round =>
        clear H'
        try clear p2
        try clear c3
        try clear c4
        try clear c4b0
        try clear c4b1
        try clear c5
        try clear c5b0
        try clear c5b1
        try clear q6
        try clear q6
        obtain ⟨x5_1, rfl, HA, HK1, HB⟩ := hrel
        cases gk with
        | zero => exact absurd HA.out (by simp [catchmentlaw10_BlockPacks.l0])
        | succ k1 =>
          have H := HA.out
          clear HA
          simp only [catchmentlaw10_BlockPacks.l0] at H
          by_cases c7 : x5_1 < (y206.length : Int)
          · rw [if_pos c7] at H
            have c7b0 : decide (x5_1 < (y206.length : Int)) = true := decide_eq_true c7
            clear c7
            by_cases c8 : 0 ≤ x5_1
            · rw [if_pos c8] at H
              have c8b0 : decide (0 ≤ x5_1) = true := decide_eq_true c8
              clear c8
              by_cases c9 : (((rd_T25 y206 x5_1).f0).size : Int) > 4000
              · rw [if_pos c9] at H
                have c9b0 : decide (4000 < (((rd_T25 y206 x5_1).f0).size : Int)) = true := decide_eq_true c9
                have c9b1 : decide (4000 < ((rd_T25 y206 x5_1).f0).size) = true := decide_eq_true (by omega)
                clear c9
                replace H := Option.bind_eq_some_iff.mp H
                obtain ⟨t212, A100, H⟩ := H
                replace H : (some t212) = some r := H
                have A10 := Aside0.mk A100
                clear A100
                obtain rfl := Option.some.inj H
                have p210 : 0 ≤ (x5_1 : Int) := of_decide_eq_true (by first | (with_reducible assumption) | assumption)
                have q210 : x5_1 < (y206.length : Int) := of_decide_eq_true (by first | (with_reducible assumption) | assumption)
                obtain ⟨ad210, e210, hx210_0, hx210_1⟩ := at_T25 HR209.out x5_1 p210 q210
                cases e210
                replace hx210_0 := (HB.out.cell (World.block_lt_of_cell? w _ hx210_0)).trans hx210_0
                replace hx210_1 := (HB.out.cell (World.block_lt_of_cell? w _ hx210_1)).trans hx210_1
                replace p210 := eq_true p210
                replace q210 := eq_true q210
                go_wp2_with (first | ((with_reducible refine gate_callee (f := 16) rfl ?_); refine goesL_ (some 34) rfl rfl Try.func16 (by kernel_rfl) rfl #[] rfl (by (try simp only [List.map_toArray, List.map_cons, List.map_nil]); first | done | rfl | (simp only [List.length_drop, List.length_take]; rfl)) ?_; (with_reducible refine (catchmentlaw10_live.calls k1  t212 _ A10.out).mono ?_); rintro e w11 ⟨rfl, hb⟩; refine ⟨_, rfl, ?_⟩; have n0_ := Aside0.mk (below_step (by repeat (first | (with_reducible first | exact HB.out | apply below_alloc | apply pw_below_drewN | apply below_drew1) | exact HB.out)) hb); clear HB; have HB := n0_; clear n0_; (try clear hb); (try clear hb2); (try clear hk); (try clear hi)))
                go_ret
                exact ⟨by first | rfl | (simp [errW_none, errW_some] <;> rfl) | (simp only [← hji3]; first | rfl | (simp [errW_none, errW_some] <;> rfl)) | (simp [*, errW_none, errW_some] <;> rfl), by repeat (first | (with_reducible first | exact HB.out | apply below_alloc | apply pw_below_drewN | apply below_drew1) | exact HB.out)⟩
              · rw [if_neg c9] at H
                have c9b0 : decide (4000 < (((rd_T25 y206 x5_1).f0).size : Int)) = false := decide_eq_false c9
                have c9b1 : decide (4000 < ((rd_T25 y206 x5_1).f0).size) = false := decide_eq_false (by omega)
                clear c9
                by_cases c12 : (((rd_T25 y206 x5_1).f1).size : Int) > 4000
                · rw [if_pos c12] at H
                  have c12b0 : decide (4000 < (((rd_T25 y206 x5_1).f1).size : Int)) = true := decide_eq_true c12
                  have c12b1 : decide (4000 < ((rd_T25 y206 x5_1).f1).size) = true := decide_eq_true (by omega)
                  clear c12
                  replace H := Option.bind_eq_some_iff.mp H
                  obtain ⟨t213, A130, H⟩ := H
                  replace H : (some t213) = some r := H
                  have A13 := Aside0.mk A130
                  clear A130
                  obtain rfl := Option.some.inj H
                  have p210 : 0 ≤ (x5_1 : Int) := of_decide_eq_true (by first | (with_reducible assumption) | assumption)
                  have q210 : x5_1 < (y206.length : Int) := of_decide_eq_true (by first | (with_reducible assumption) | assumption)
                  obtain ⟨ad210, e210, hx210_0, hx210_1⟩ := at_T25 HR209.out x5_1 p210 q210
                  cases e210
                  replace hx210_0 := (HB.out.cell (World.block_lt_of_cell? w _ hx210_0)).trans hx210_0
                  replace hx210_1 := (HB.out.cell (World.block_lt_of_cell? w _ hx210_1)).trans hx210_1
                  replace p210 := eq_true p210
                  replace q210 := eq_true q210
                  have p211 : 0 ≤ (x5_1 : Int) := of_decide_eq_true (by first | (with_reducible assumption) | assumption)
                  have q211 : x5_1 < (y206.length : Int) := of_decide_eq_true (by first | (with_reducible assumption) | assumption)
                  obtain ⟨ad211, e211, hx211_0, hx211_1⟩ := at_T25 HR209.out x5_1 p211 q211
                  obtain rfl : ad210 = ad211 := (by injection e211)
                  replace hx211_0 := (HB.out.cell (World.block_lt_of_cell? w _ hx211_0)).trans hx211_0
                  replace hx211_1 := (HB.out.cell (World.block_lt_of_cell? w _ hx211_1)).trans hx211_1
                  replace p211 := eq_true p211
                  replace q211 := eq_true q211
                  go_wp2_with (first | ((with_reducible refine gate_callee (f := 16) rfl ?_); refine goesL_ (some 34) rfl rfl Try.func16 (by kernel_rfl) rfl #[] rfl (by (try simp only [List.map_toArray, List.map_cons, List.map_nil]); first | done | rfl | (simp only [List.length_drop, List.length_take]; rfl)) ?_; (with_reducible refine (catchmentlaw10_live.calls k1  t213 _ A13.out).mono ?_); rintro e w14 ⟨rfl, hb⟩; refine ⟨_, rfl, ?_⟩; have n0_ := Aside0.mk (below_step (by repeat (first | (with_reducible first | exact HB.out | apply below_alloc | apply pw_below_drewN | apply below_drew1) | exact HB.out)) hb); clear HB; have HB := n0_; clear n0_; (try clear hb); (try clear hb2); (try clear hk); (try clear hi)))
                  go_ret
                  exact ⟨by first | rfl | (simp [errW_none, errW_some] <;> rfl) | (simp only [← hji3]; first | rfl | (simp [errW_none, errW_some] <;> rfl)) | (simp [*, errW_none, errW_some] <;> rfl), by repeat (first | (with_reducible first | exact HB.out | apply below_alloc | apply pw_below_drewN | apply below_drew1) | exact HB.out)⟩
                · rw [if_neg c12] at H
                  have c12b0 : decide (4000 < (((rd_T25 y206 x5_1).f1).size : Int)) = false := decide_eq_false c12
                  have c12b1 : decide (4000 < ((rd_T25 y206 x5_1).f1).size) = false := decide_eq_false (by omega)
                  clear c12
                  have H' := Aside0.mk H
                  clear H
                  have p210 : 0 ≤ (x5_1 : Int) := of_decide_eq_true (by first | (with_reducible assumption) | assumption)
                  have q210 : x5_1 < (y206.length : Int) := of_decide_eq_true (by first | (with_reducible assumption) | assumption)
                  obtain ⟨ad210, e210, hx210_0, hx210_1⟩ := at_T25 HR209.out x5_1 p210 q210
                  cases e210
                  replace hx210_0 := (HB.out.cell (World.block_lt_of_cell? w _ hx210_0)).trans hx210_0
                  replace hx210_1 := (HB.out.cell (World.block_lt_of_cell? w _ hx210_1)).trans hx210_1
                  replace p210 := eq_true p210
                  replace q210 := eq_true q210
                  have p211 : 0 ≤ (x5_1 : Int) := of_decide_eq_true (by first | (with_reducible assumption) | assumption)
                  have q211 : x5_1 < (y206.length : Int) := of_decide_eq_true (by first | (with_reducible assumption) | assumption)
                  obtain ⟨ad211, e211, hx211_0, hx211_1⟩ := at_T25 HR209.out x5_1 p211 q211
                  obtain rfl : ad210 = ad211 := (by injection e211)
                  replace hx211_0 := (HB.out.cell (World.block_lt_of_cell? w _ hx211_0)).trans hx211_0
                  replace hx211_1 := (HB.out.cell (World.block_lt_of_cell? w _ hx211_1)).trans hx211_1
                  replace p211 := eq_true p211
                  replace q211 := eq_true q211
                  go_wp2
                  go_roundg k1
                  case measure => have := HK1.out; omega
                  case rel => exact ⟨(wrap64 (x5_1 + 1)), (by first | rfl | (simp; done) | (simp [*]; done)), H', ⟨by have := HK1.out; omega⟩, ⟨by repeat (first | (with_reducible first | exact HB.out | apply below_alloc | apply pw_below_drewN | apply below_drew1) | exact HB.out)⟩⟩
            · rw [if_neg c8] at H
              exact absurd H (by simp)
          · rw [if_neg c7] at H
            have c7b0 : decide (x5_1 < (y206.length : Int)) = false := decide_eq_false c7
            clear c7
            by_cases c15 : (a1.size : Int) > 4000
            · rw [if_pos c15] at H
              have c15b0 : decide (4000 < (a1.size : Int)) = true := decide_eq_true c15
              have c15b1 : decide (4000 < a1.size) = true := decide_eq_true (by omega)
              clear c15
              replace H := Option.bind_eq_some_iff.mp H
              obtain ⟨t214, A160, H⟩ := H
              replace H : (some t214) = some r := H
              have A16 := Aside0.mk A160
              clear A160
              obtain rfl := Option.some.inj H
              go_wp2_with (first | ((with_reducible refine gate_callee (f := 16) rfl ?_); refine goesL_ (some 38) rfl rfl Try.func16 (by kernel_rfl) rfl #[] rfl (by (try simp only [List.map_toArray, List.map_cons, List.map_nil]); first | done | rfl | (simp only [List.length_drop, List.length_take]; rfl)) ?_; (with_reducible refine (catchmentlaw10_live.calls k1  t214 _ A16.out).mono ?_); rintro e w17 ⟨rfl, hb⟩; refine ⟨_, rfl, ?_⟩; have n0_ := Aside0.mk (below_step (by repeat (first | (with_reducible first | exact HB.out | apply below_alloc | apply pw_below_drewN | apply below_drew1) | exact HB.out)) hb); clear HB; have HB := n0_; clear n0_; (try clear hb); (try clear hb2); (try clear hk); (try clear hi)))
              go_ret
              exact ⟨by first | rfl | (simp [errW_none, errW_some] <;> rfl) | (simp only [← hji3]; first | rfl | (simp [errW_none, errW_some] <;> rfl)) | (simp [*, errW_none, errW_some] <;> rfl), by repeat (first | (with_reducible first | exact HB.out | apply below_alloc | apply pw_below_drewN | apply below_drew1) | exact HB.out)⟩
            · rw [if_neg c15] at H
              have c15b0 : decide (4000 < (a1.size : Int)) = false := decide_eq_false c15
              have c15b1 : decide (4000 < a1.size) = false := decide_eq_false (by omega)
              clear c15
              replace H := Option.bind_eq_some_iff.mp H
              obtain ⟨⟨t215, t216⟩, A180, H⟩ := H
              replace H : ((catchmentref10_Unpack.f k1 a1).bind fun bt219 => ((catchmentlaw10_live.f k1).bind fun t223 => (if t223 = true then ((block_Pack.f k1 y206).bind fun t224 => ((catchmentref10_Pack.f k1 y206).bind fun t225 => (if t224.toList = t225.toList then (if t216 = bt219.2 then ((catchmentref05_Same.f k1 t215 bt219.1).bind fun t226 => (some t226)) else (none)) else (none)))) else (none)))) = some r := H
              have A18 := Aside0.mk A180
              clear A180
              replace H := Option.bind_eq_some_iff.mp H
              obtain ⟨⟨t219, t220⟩, A190, H⟩ := H
              replace H : ((catchmentlaw10_live.f k1).bind fun t223 => (if t223 = true then ((block_Pack.f k1 y206).bind fun t224 => ((catchmentref10_Pack.f k1 y206).bind fun t225 => (if t224.toList = t225.toList then (if t216 = t220 then ((catchmentref05_Same.f k1 t215 t219).bind fun t226 => (some t226)) else (none)) else (none)))) else (none))) = some r := H
              have A19 := Aside0.mk A190
              clear A190
              replace H := Option.bind_eq_some_iff.mp H
              obtain ⟨t223, A200, H⟩ := H
              replace H : (if t223 = true then ((block_Pack.f k1 y206).bind fun t224 => ((catchmentref10_Pack.f k1 y206).bind fun t225 => (if t224.toList = t225.toList then (if t216 = t220 then ((catchmentref05_Same.f k1 t215 t219).bind fun t226 => (some t226)) else (none)) else (none)))) else (none)) = some r := H
              have A20 := Aside0.mk A200
              clear A200
              by_cases c21 : t223 = true
              · subst c21
                have H1 : ((block_Pack.f k1 y206).bind fun t224 => ((catchmentref10_Pack.f k1 y206).bind fun t225 => (if t224.toList = t225.toList then (if t216 = t220 then ((catchmentref05_Same.f k1 t215 t219).bind fun t226 => (some t226)) else (none)) else (none)))) = some r := by rw [if_pos rfl] at H; exact H
                clear H
                have H := H1
                clear H1
                replace H := Option.bind_eq_some_iff.mp H
                obtain ⟨t224, A220, H⟩ := H
                replace H : ((catchmentref10_Pack.f k1 y206).bind fun t225 => (if t224.toList = t225.toList then (if t216 = t220 then ((catchmentref05_Same.f k1 t215 t219).bind fun t226 => (some t226)) else (none)) else (none))) = some r := H
                have A22 := Aside0.mk A220
                clear A220
                replace H := Option.bind_eq_some_iff.mp H
                obtain ⟨t225, A230, H⟩ := H
                replace H : (if t224.toList = t225.toList then (if t216 = t220 then ((catchmentref05_Same.f k1 t215 t219).bind fun t226 => (some t226)) else (none)) else (none)) = some r := H
                have A23 := Aside0.mk A230
                clear A230
                by_cases c24 : t224.toList = t225.toList
                · rw [if_pos c24] at H
                  have c24b0 : (t224.toList == t225.toList) = true := beq_iff_eq.mpr c24
                  have c24b1 : (t224.toList != t225.toList) = false := bne_eq_false_iff_eq.mpr c24
                  clear c24
                  by_cases c25 : t216 = t220
                  · rw [if_pos c25] at H
                    have c25b0 : (t216 == t220) = true := beq_iff_eq.mpr c25
                    have c25b1 : (t216 != t220) = false := bne_eq_false_iff_eq.mpr c25
                    clear c25
                    replace H := Option.bind_eq_some_iff.mp H
                    obtain ⟨t226, A260, H⟩ := H
                    replace H : (some t226) = some r := H
                    have A26 := Aside0.mk A260
                    clear A260
                    obtain rfl := Option.some.inj H
                    go_wp2_with (first | ((with_reducible refine gate_callee (f := 17) rfl ?_); refine goesL_ (some 41) rfl rfl Try.func17 (by kernel_rfl) rfl #[.string a1] rfl (by (try simp only [List.map_toArray, List.map_cons, List.map_nil]); first | done | rfl | (simp only [List.length_drop, List.length_take]; rfl)) ?_; (with_reducible refine (block_Unpack.calls k1 a1 t215 t216 _ A18.out).mono ?_); rintro e w27 ⟨v217, rfl, ho0, hb⟩; refine ⟨_, rfl, ?_⟩; have n0_ := Aside0.mk (Kd.R_lower ho0 (below_size (by repeat (first | (with_reducible first | exact HB.out | apply below_alloc | apply pw_below_drewN | apply below_drew1) | exact HB.out)))); have n1_ := Aside0.mk (below_step (by repeat (first | (with_reducible first | exact HB.out | apply below_alloc | apply pw_below_drewN | apply below_drew1) | exact HB.out)) hb); clear HB; have HO218 := n0_; have HB := n1_; clear n0_ n1_; (try clear hb); (try clear hb2); (try clear hk); (try clear hi); (try clear ho0)) | ((with_reducible refine gate_callee (f := 18) rfl ?_); refine goesL_ (some 46) rfl rfl Try.func18 (by kernel_rfl) rfl #[.string a1] rfl (by (try simp only [List.map_toArray, List.map_cons, List.map_nil]); first | done | rfl | (simp only [List.length_drop, List.length_take]; rfl)) ?_; (with_reducible refine (catchmentref10_Unpack.calls k1 a1 t219 t220 _ A19.out).mono ?_); rintro e w28 ⟨v221, rfl, ho0, hb⟩; refine ⟨_, rfl, ?_⟩; have n0_ := Aside0.mk (Kd.R_elder' (by (with_reducible repeat (first | apply Kd.R_alloc | apply Kd.R_drewN | apply Kd.R_drew)); exact HO218.out) (Kd.R_base ho0) hb); have n1_ := Aside0.mk (Kd.R_lower (Kd.R_new' ho0 (Kd.R_lt (by (with_reducible repeat (first | apply Kd.R_alloc | apply Kd.R_drewN | apply Kd.R_drew)); exact HO218.out))) (below_size (by repeat (first | (with_reducible first | exact HB.out | apply below_alloc | apply pw_below_drewN | apply below_drew1) | exact HB.out)))); have n2_ := Aside0.mk (below_step (by repeat (first | (with_reducible first | exact HB.out | apply below_alloc | apply pw_below_drewN | apply below_drew1) | exact HB.out)) hb); clear HO218; clear HB; have HO218 := n0_; have HO222 := n1_; have HB := n2_; clear n0_ n1_ n2_; (try clear hb); (try clear hb2); (try clear hk); (try clear hi); (try clear ho0)) | ((with_reducible refine gate_callee (f := 16) rfl ?_); refine goesL_ (some 49) rfl rfl Try.func16 (by kernel_rfl) rfl #[] rfl (by (try simp only [List.map_toArray, List.map_cons, List.map_nil]); first | done | rfl | (simp only [List.length_drop, List.length_take]; rfl)) ?_; (with_reducible refine (catchmentlaw10_live.calls k1  true _ A20.out).mono ?_); rintro e w29 ⟨rfl, hb⟩; refine ⟨_, rfl, ?_⟩; have n0_ := Aside0.mk (Kd.R_below (by (with_reducible repeat (first | apply Kd.R_alloc | apply Kd.R_drewN | apply Kd.R_drew)); exact HO218.out) hb); have n1_ := Aside0.mk (Kd.R_below (by (with_reducible repeat (first | apply Kd.R_alloc | apply Kd.R_drewN | apply Kd.R_drew)); exact HO222.out) hb); have n2_ := Aside0.mk (below_step (by repeat (first | (with_reducible first | exact HB.out | apply below_alloc | apply pw_below_drewN | apply below_drew1) | exact HB.out)) hb); clear HO218; clear HO222; clear HB; have HO218 := n0_; have HO222 := n1_; have HB := n2_; clear n0_ n1_ n2_; (try clear hb); (try clear hb2); (try clear hk); (try clear hi)) | (go_at_call 19; (with_reducible refine (block_Pack.calls k1 _ _ y206 t224 _ ?side1 ?side2 A22.out).mono ?_); (case side1 => repeat (first | exact (Kd.C_below HR209.out HB.out) | (with_reducible refine Kd.C_alloc ?_ _) | (with_reducible refine Kd.C_drewN ?_ _) | (with_reducible refine Kd.C_drew ?_))); (case side2 => exact HC209.out); rintro e w30 ⟨rfl, hb⟩; have n0_ := Aside0.mk (Kd.R_below (by (with_reducible repeat (first | apply Kd.R_alloc | apply Kd.R_drewN | apply Kd.R_drew)); exact HO218.out) hb); have n1_ := Aside0.mk (Kd.R_below (by (with_reducible repeat (first | apply Kd.R_alloc | apply Kd.R_drewN | apply Kd.R_drew)); exact HO222.out) hb); have n2_ := Aside0.mk (below_step (by repeat (first | (with_reducible first | exact HB.out | apply below_alloc | apply pw_below_drewN | apply below_drew1) | exact HB.out)) hb); clear HO218; clear HO222; clear HB; have HO218 := n0_; have HO222 := n1_; have HB := n2_; clear n0_ n1_ n2_; (try clear hb); (try clear hb2); (try clear hk); (try clear hi)) | (go_at_call 20; (with_reducible refine (catchmentref10_Pack.calls k1 _ _ y206 t225 _ ?side1 ?side2 A23.out).mono ?_); (case side1 => repeat (first | exact (Kd.C_below HR209.out HB.out) | (with_reducible refine Kd.C_alloc ?_ _) | (with_reducible refine Kd.C_drewN ?_ _) | (with_reducible refine Kd.C_drew ?_))); (case side2 => exact HC209.out); rintro e w31 ⟨rfl, hb⟩; have n0_ := Aside0.mk (Kd.R_below (by (with_reducible repeat (first | apply Kd.R_alloc | apply Kd.R_drewN | apply Kd.R_drew)); exact HO218.out) hb); have n1_ := Aside0.mk (Kd.R_below (by (with_reducible repeat (first | apply Kd.R_alloc | apply Kd.R_drewN | apply Kd.R_drew)); exact HO222.out) hb); have n2_ := Aside0.mk (below_step (by repeat (first | (with_reducible first | exact HB.out | apply below_alloc | apply pw_below_drewN | apply below_drew1) | exact HB.out)) hb); clear HO218; clear HO222; clear HB; have HO218 := n0_; have HO222 := n1_; have HB := n2_; clear n0_ n1_ n2_; (try clear hb); (try clear hb2); (try clear hk); (try clear hi); obtain ⟨Ao32, co32, eo32⟩ := Kd.R_slice HO218.out; subst eo32; obtain ⟨Ao33, co33, eo33⟩ := Kd.R_slice HO222.out; subst eo33) | (go_at_call 21; (with_reducible refine (catchmentref05_Same.calls k1 _ _ t215 _ _ t219 t226 _ ?side1 ?side2 ?side3 ?side4 A26.out).mono ?_); (case side1 => repeat (first | exact (Kd.R_reads' HO218.out).2.2 | (with_reducible refine Kd.C_alloc ?_ _) | (with_reducible refine Kd.C_drewN ?_ _) | (with_reducible refine Kd.C_drew ?_))); (case side2 => exact (Kd.R_reads' HO218.out).2.1); (case side3 => repeat (first | exact (Kd.R_reads' HO222.out).2.2 | (with_reducible refine Kd.C_alloc ?_ _) | (with_reducible refine Kd.C_drewN ?_ _) | (with_reducible refine Kd.C_drew ?_))); (case side4 => exact (Kd.R_reads' HO222.out).2.1); rintro e w' ⟨rfl, ⟨nd, rfl⟩⟩))
                    go_ret
                    exact ⟨by first | rfl | (simp [errW_none, errW_some] <;> rfl) | (simp only [← hji3]; first | rfl | (simp [errW_none, errW_some] <;> rfl)) | (simp [*, errW_none, errW_some] <;> rfl), by repeat (first | (with_reducible first | exact HB.out | apply below_alloc | apply pw_below_drewN | apply below_drew1) | exact HB.out)⟩
                  · rw [if_neg c25] at H
                    exact absurd H (by simp)
                · rw [if_neg c24] at H
                  exact absurd H (by simp)
              · replace c21 := Bool.eq_false_iff.mpr c21
                subst c21
                have H1 : (none) = some r := by rw [if_neg (show ¬ (false = true) by decide)] at H; exact H
                clear H
                have H := H1
                clear H1
                exact absurd H (by simp)
    · rw [if_neg c5] at H
      exact absurd H (by simp)
  · rw [if_neg c4] at H
    exact absurd H (by simp)
def ok25 (y : S25) : Prop := (fun s : ByteArray => s.size ≤ 140737488351232) y.f0 ∧ (fun s : ByteArray => s.size ≤ 140737488351232) y.f1
/-- THE ONE PURE STATEMENT of catchmentlaw10_BlockPacks. -/
def catchmentlaw10_BlockPacks.Pure : Prop := ∀ (l0 : List (S25)) (a1 : ByteArray), (fun xs : List (S25) => xs.length ≤ maxLen ∧ xs.length * 32 ≤ 140737488351232 ∧ ∀ x ∈ xs, ok25 x) l0 → (fun s : ByteArray => s.size ≤ 140737488351232) a1 → ∃ k, catchmentlaw10_BlockPacks.f k l0 a1 = some true
theorem catchmentlaw10_BlockPacks.walk (P : catchmentlaw10_BlockPacks.Pure) (A0 : Option Addr) (c0 : Nat) (l0 : List (S25)) (a1 : ByteArray) (w : World) (hr0 : Kd.C k25 w A0 l0.length l0) (hc0 : l0.length ≤ c0) (ok_0 : (fun xs : List (S25) => xs.length ≤ maxLen ∧ xs.length * 32 ≤ 140737488351232 ∧ ∀ x ∈ xs, ok25 x) l0) (ok_1 : (fun s : ByteArray => s.size ≤ 140737488351232) a1) :
    Calls Try.prog 3 #[.slice A0 l0.length c0, .string a1] w fun e w' => e = .returned (.bool true) ∧ Below w.heap.size w w' := by
  obtain ⟨k, h⟩ := P l0 a1 ok_0 ok_1
  refine (catchmentlaw10_BlockPacks.calls k A0 c0 l0 a1 true w hr0 hc0 h).mono ?_
  rintro e w' ⟨rfl, hd⟩
  exact ⟨rfl, hd⟩

end Go.Proofs.Ytnklnjghecmihaa.H6
