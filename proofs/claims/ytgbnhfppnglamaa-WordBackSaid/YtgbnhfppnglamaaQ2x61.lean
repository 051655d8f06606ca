-- written by a program of this session (wip/myprint.py), over the kit's printer and the session's own contracts
import Derived.Test.YtgbnhfppnglamaaQ2x0
import Derived.Test.YtgbnhfppnglamaaQ2x6
import Derived.Test.YtgbnhfppnglamaaQ2x7
import Derived.Test.YtgbnhfppnglamaaQ2x8
import Derived.Test.YtgbnhfppnglamaaQ2x17
import Derived.Test.YtgbnhfppnglamaaQ2x19
import Derived.Test.YtgbnhfppnglamaaQ2x54
import Derived.Test.YtgbnhfppnglamaaQ2x59
import Derived.Test.YtgbnhfppnglamaaQ2x60
namespace Go.Proofs.Ytgbnhfppnglamaa.Q2
open Go.RowKit Go.Proofs.YtgbnhfppnglamaaW.PrintWords Go.Proofs.YtgbnhfppnglamaaW.PrintLast Go.Proofs.YtgbnhfppnglamaaW.PrintMore Go.Proofs.YtgbnhfppnglamaaW.Mine
attribute [local go_sem] max2_int min2_int max_two min_two max_three min_three max_four min_four max2_str min2_str binOp_gtr_str binOp_leq_str binOp_geq_str   -- for this text's walks alone
set_option linter.unusedVariables false
set_option linter.unusedSimpArgs false

/-! ### catchmentlaw03_WordBack: function 9 -/
mutual
def catchmentlaw03_WordBack.l0 : Nat → Int → List ByteArray → ByteArray → Int → Option (Bool)
  | 0, _, _, _, _ => none
  | k + 1, x0, x1, x2, x7 => if x7 < (x1.length : Int) then (if 0 ≤ x7 then (if ((rdOf ByteArray.empty x1 x7).size : Int) > 300 then ((catchmentlaw03_live.f k).bind fun t207 => (some t207)) else (catchmentlaw03_WordBack.l0 k x0 x1 x2 (wrap64 (x7 + 1)))) else (none)) else (if (x2.size : Int) > 1000 then ((catchmentlaw03_live.f k).bind fun t208 => (some t208)) else ((word_Num.f k x0).bind fun t209 => (if t209.size + x2.size ≤ 9223372036854775807 then ((word_TakeNum.f k (t209 ++ x2)).bind fun bt210 => (if x0 ≥ 0 then (if x0 ≤ 2147483647 then (if bt210.1 = x0 then (if bt210.2.1.toList = x2.toList then (if bt210.2.2 = 0 then (if (t209.size : Int) < 1 then (catchmentlaw03_WordBack.j1 k x1 x2 true) else (catchmentlaw03_WordBack.j1 k x1 x2 (decide ((t209.size : Int) > 5)))) else (catchmentlaw03_WordBack.j1 k x1 x2 true)) else (catchmentlaw03_WordBack.j1 k x1 x2 true)) else (catchmentlaw03_WordBack.j1 k x1 x2 true)) else (catchmentlaw03_WordBack.j1 k x1 x2 false)) else (catchmentlaw03_WordBack.j1 k x1 x2 false))) else (none))))
def catchmentlaw03_WordBack.j1 : Nat → List ByteArray → ByteArray → Bool → Option (Bool)
  | 0, _, _, _ => none
  | k + 1, x1, x2, x77 => if x77 = true then (none) else ((word_Texts.f k x1).bind fun t213 => (if t213.size + x2.size ≤ 9223372036854775807 then ((word_TakeTexts.f k (t213 ++ x2) (x1.length : Int) 300).bind fun bt214 => ((catchmentlaw03_live.f k).bind fun t219 => (if t219 = true then ((catchmentref03_Texts.f k x1).bind fun t220 => (if t213.toList = t220.toList then (if bt214.2.2 = 0 then (if bt214.2.1.toList = x2.toList then ((catchmentref03_Same.f k bt214.1 x1).bind fun t221 => (if t221 = true then ((word_Text.f k x2).bind fun t222 => ((catchmentref03_Texts.f k (([x2] : List ByteArray))).bind fun t226 => (some (t222.toList == t226.toList)))) else (none))) else (none)) else (none)) else (none))) else (none)))) else (none)))
end
def catchmentlaw03_WordBack.f (k : Nat) (a0 : Int) (l1 : List ByteArray) (a2 : ByteArray) : Option (Bool) := if 0 ≤ (mn (l1.length : Int) 30) then (if (mn (l1.length : Int) 30) ≤ (l1.length : Int) then (catchmentlaw03_WordBack.l0 k a0 (l1.take ((mn (l1.length : Int) 30) : Int).toNat) a2 0) else (none)) else (none)
theorem catchmentlaw03_WordBack.mono_l : ∀ k, (∀ y0 y1 y2 y3, LeO (catchmentlaw03_WordBack.l0 k y0 y1 y2 y3) (catchmentlaw03_WordBack.l0 (k + 1) y0 y1 y2 y3)) ∧ (∀ y0 y1 y2, LeO (catchmentlaw03_WordBack.j1 k y0 y1 y2) (catchmentlaw03_WordBack.j1 (k + 1) y0 y1 y2))
  | 0 => ⟨fun _ _ _ _ r h => by simp [catchmentlaw03_WordBack.l0] at h, fun _ _ _ r h => by simp [catchmentlaw03_WordBack.j1] at h⟩
  | k + 1 => by
    obtain ⟨ih0, ih1⟩ := catchmentlaw03_WordBack.mono_l k
    refine ⟨?_, ?_⟩
    · intro y0 y1 y2 y3
      unfold catchmentlaw03_WordBack.l0
      repeat' first
      | (with_reducible exact ih0 _ _ _ _)
      | (with_reducible exact ih1 _ _ _)
      | (with_reducible exact catchmentlaw03_live.mono _)
      | (with_reducible exact catchmentref03_Same.mono _ _ _)
      | (with_reducible exact catchmentref03_Texts.mono _ _)
      | (with_reducible exact word_Num.mono _ _)
      | (with_reducible exact word_TakeNum.mono _ _)
      | (with_reducible exact word_TakeTexts.mono _ _ _ _)
      | (with_reducible exact word_Text.mono _ _)
      | (with_reducible exact word_Texts.mono _ _)
      | (with_reducible exact LeO.refl _)
      | (with_reducible exact LeO.none _)
      | (with_reducible refine LeO.ite ?_ ?_)
      | (with_reducible refine LeO.bind ?_ (fun _ => ?_))
      | exact ih0 _ _ _ _
      | exact ih1 _ _ _
      | exact catchmentlaw03_live.mono _
      | exact catchmentref03_Same.mono _ _ _
      | exact catchmentref03_Texts.mono _ _
      | exact word_Num.mono _ _
      | exact word_TakeNum.mono _ _
      | exact word_TakeTexts.mono _ _ _ _
      | exact word_Text.mono _ _
      | exact word_Texts.mono _ _
      | exact LeO.none _
      | refine LeO.ite ?_ ?_
      | refine LeO.bind ?_ (fun _ => ?_)
    · intro y0 y1 y2
      unfold catchmentlaw03_WordBack.j1
      repeat' first
      | (with_reducible exact ih0 _ _ _ _)
      | (with_reducible exact ih1 _ _ _)
      | (with_reducible exact catchmentlaw03_live.mono _)
      | (with_reducible exact catchmentref03_Same.mono _ _ _)
      | (with_reducible exact catchmentref03_Texts.mono _ _)
      | (with_reducible exact word_Num.mono _ _)
      | (with_reducible exact word_TakeNum.mono _ _)
      | (with_reducible exact word_TakeTexts.mono _ _ _ _)
      | (with_reducible exact word_Text.mono _ _)
      | (with_reducible exact word_Texts.mono _ _)
      | (with_reducible exact LeO.refl _)
      | (with_reducible exact LeO.none _)
      | (with_reducible refine LeO.ite ?_ ?_)
      | (with_reducible refine LeO.bind ?_ (fun _ => ?_))
      | exact ih0 _ _ _ _
      | exact ih1 _ _ _
      | exact catchmentlaw03_live.mono _
      | exact catchmentref03_Same.mono _ _ _
      | exact catchmentref03_Texts.mono _ _
      | exact word_Num.mono _ _
      | exact word_TakeNum.mono _ _
      | exact word_TakeTexts.mono _ _ _ _
      | exact word_Text.mono _ _
      | exact word_Texts.mono _ _
      | exact LeO.none _
      | refine LeO.ite ?_ ?_
      | refine LeO.bind ?_ (fun _ => ?_)
theorem catchmentlaw03_WordBack.mono : ∀ a0 a1 a2 k, LeO (catchmentlaw03_WordBack.f k a0 a1 a2) (catchmentlaw03_WordBack.f (k + 1) a0 a1 a2) := by
  intro a0 a1 a2 k
  obtain ⟨ih0, ih1⟩ := catchmentlaw03_WordBack.mono_l k
  unfold catchmentlaw03_WordBack.f
  repeat' first
      | (with_reducible exact ih0 _ _ _ _)
      | (with_reducible exact ih1 _ _ _)
      | (with_reducible exact catchmentlaw03_live.mono _)
      | (with_reducible exact catchmentref03_Same.mono _ _ _)
      | (with_reducible exact catchmentref03_Texts.mono _ _)
      | (with_reducible exact word_Num.mono _ _)
      | (with_reducible exact word_TakeNum.mono _ _)
      | (with_reducible exact word_TakeTexts.mono _ _ _ _)
      | (with_reducible exact word_Text.mono _ _)
      | (with_reducible exact word_Texts.mono _ _)
      | (with_reducible exact LeO.refl _)
      | (with_reducible exact LeO.none _)
      | (with_reducible refine LeO.ite ?_ ?_)
      | (with_reducible refine LeO.bind ?_ (fun _ => ?_))
      | exact ih0 _ _ _ _
      | exact ih1 _ _ _
      | exact catchmentlaw03_live.mono _
      | exact catchmentref03_Same.mono _ _ _
      | exact catchmentref03_Texts.mono _ _
      | exact word_Num.mono _ _
      | exact word_TakeNum.mono _ _
      | exact word_TakeTexts.mono _ _ _ _
      | exact word_Text.mono _ _
      | exact word_Texts.mono _ _
      | exact LeO.none _
      | refine LeO.ite ?_ ?_
      | refine LeO.bind ?_ (fun _ => ?_)
set_option maxHeartbeats 8000000 in
set_option maxRecDepth 100000 in
theorem catchmentlaw03_WordBack.calls (k : Nat) (a0 : Int) (A1 : Option Addr) (c1 : Nat) (l1 : List ByteArray) (a2 : ByteArray) (r : Bool) (w : World) (hr1 : Kd.C Kd.string w A1 l1.length l1) (hc1 : l1.length ≤ c1) (h : catchmentlaw03_WordBack.f k a0 l1 a2 = some r) :
    Calls Try.prog 9 #[.int .i64 a0, .slice A1 l1.length c1, .string a2] w fun e w' => e = .returned (.bool r) ∧ Below w.heap.size w w' := by
  have HR1 := Aside0.mk hr1
  have HC1 := Aside0.mk hc1
  clear hr1 hc1
  have HB := Aside0.mk (Below.refl w.heap.size w)
  have H : (if 0 ≤ (mn (l1.length : Int) 30) then (if (mn (l1.length : Int) 30) ≤ (l1.length : Int) then (catchmentlaw03_WordBack.l0 k a0 (l1.take ((mn (l1.length : Int) 30) : Int).toNat) a2 0) else (none)) else (none)) = some r := h
  clear h
  obtain ⟨ji4, hji4⟩ : ∃ j_ : Int, (mn (l1.length : Int) 30) = j_ := ⟨_, rfl⟩
  replace H : (if 0 ≤ (ji4) then (if (ji4) ≤ (l1.length : Int) then (catchmentlaw03_WordBack.l0 k a0 (l1.take ((ji4) : Int).toNat) a2 0) else (none)) else (none)) = some r := by first | (rw [hji4] at H; exact H) | (simp only [hji4] at H ⊢; exact H)
  (try (have hji4h : ji4 ≤ 30 := by (rw [← hji4]; unfold mn; (repeat' split) <;> omega)))
  (try (have hji4g : ji4 ≤ 64 := by omega))
  (try (have hji4l : 0 ≤ ji4 := by (rw [← hji4]; unfold mn; (repeat' split) <;> omega)))
  (try (have hji4m : 0 ≤ ji4 := by omega))
  have hji4_ : (if 30 < (l1.length : Int) then 30 else (l1.length : Int)) = ji4 := hji4
  (try (have hji4n : (if 30 < l1.length then (30 : Int) else (l1.length : Int)) = ji4 := by (rw [← hji4]; unfold mn; (repeat' split) <;> omega)))
  by_cases c5 : 0 ≤ (ji4)
  · rw [if_pos c5] at H
    have c5b0 := eq_true c5
    have c5b1 : decide (0 ≤ (ji4)) = true := decide_eq_true c5
    clear c5
    by_cases c6 : (ji4) ≤ (l1.length : Int)
    · rw [if_pos c6] at H
      have c6b0 := eq_true c6
      have c6b1 : decide ((ji4) ≤ (l1.length : Int)) = true := decide_eq_true c6
      clear c6
      have H' := Aside0.mk H
      clear H
      obtain ⟨i07, hi07, _, hsz7, _⟩ := info_parts info9
      obtain ⟨hcut7, hA7, hC7⟩ := print_take_of (P := Try.prog) Value.string (⟨#[]⟩ : ByteArray) 35 9 .i64 Try.underlying35 hi07 hsz7 A1 c1 l1 (ji4) (of_decide_eq_true (by first | (with_reducible assumption) | assumption)) (of_decide_eq_true (by first | (with_reducible assumption) | assumption)) HC1.out
      have HR205 := Aside0.mk (Kd.C_of_reads (h1 := fun _ => rfl) (hA7 _ (Kd.reads_of_C HR1.out)))
      have HC205 := Aside0.mk hC7
      clear hA7 hC7 hi07 hsz7
      -- CUTFIX
      obtain ⟨t205_, ht205_⟩ : ∃ x, (l1.take ((ji4) : Int).toNat) = x := ⟨_, rfl⟩
      have et205_ : ji4 = (t205_.length : Int) := by rw [← ht205_, List.length_take]; have := of_decide_eq_true (show decide (0 ≤ (ji4)) = true by assumption); have := of_decide_eq_true (show decide ((ji4) ≤ (l1.length : Int)) = true by assumption); omega
      simp only [ht205_] at *
      clear ht205_
      subst et205_
      go_enter Try.func9, Try.ntmps9
      go_wp2
      go_loopg [7] k (fun kq v7 w' => ∃ (x7_1 : Int), v7 = .int .i64 x7_1 ∧ Aside0 (catchmentlaw03_WordBack.l0 kq a0 t205_ a2 x7_1 = some r) ∧ Aside0 (kq ≤ k) ∧ Aside0 (Below w.heap.size w w'))
      case atStart => exact ⟨(0), (by first | rfl | (simp; done) | (simp [*]; done)), H', ⟨Nat.le_refl _⟩, ⟨by repeat (first | (with_reducible first | exact HB.out | apply below_alloc | apply pw_below_drewN | apply below_drew1) | exact HB.out)⟩⟩
      case round =>
        clear H'
        try clear c1
        try clear p2
        try clear c5
        try clear c5b0
        try clear c5b1
        try clear c6
        try clear c6b0
        try clear c6b1
        obtain ⟨x7_1, rfl, HA, HK1, HB⟩ := hrel
        cases gk with
        | zero => exact absurd HA.out (by simp [catchmentlaw03_WordBack.l0])
        | succ k1 =>
          have H := HA.out
          clear HA
          simp only [catchmentlaw03_WordBack.l0] at H
          by_cases c8 : x7_1 < (t205_.length : Int)
          · rw [if_pos c8] at H
            have c8b0 : decide (x7_1 < (t205_.length : Int)) = true := decide_eq_true c8
            clear c8
            by_cases c9 : 0 ≤ x7_1
            · rw [if_pos c9] at H
              have c9b0 : decide (0 ≤ x7_1) = true := decide_eq_true c9
              clear c9
              by_cases c10 : ((rdOf ByteArray.empty t205_ x7_1).size : Int) > 300
              · rw [if_pos c10] at H
                have c10b0 : decide (300 < ((rdOf ByteArray.empty t205_ x7_1).size : Int)) = true := decide_eq_true c10
                have c10b1 : decide (300 < (rdOf ByteArray.empty t205_ x7_1).size) = true := decide_eq_true (by omega)
                clear c10
                replace H := Option.bind_eq_some_iff.mp H
                obtain ⟨t207, A110, H⟩ := H
                replace H : (some t207) = some r := H
                have A11 := Aside0.mk A110
                clear A110
                obtain rfl := Option.some.inj H
                have p206 : 0 ≤ (x7_1 : Int) := of_decide_eq_true (by first | (with_reducible assumption) | assumption)
                have q206 : x7_1 < (t205_.length : Int) := of_decide_eq_true (by first | (with_reducible assumption) | assumption)
                obtain ⟨ad206, e206, hx206_0⟩ := Kd.at_string HR205.out x7_1 p206 q206
                cases e206
                replace hx206_0 := (HB.out.cell (World.block_lt_of_cell? w _ hx206_0)).trans hx206_0
                replace p206 := eq_true p206
                replace q206 := eq_true q206
                go_wp2_with (first | ((with_reducible refine gate_callee (f := 17) rfl ?_); refine goesL_ (some 33) rfl rfl Try.func17 (by kernel_rfl) rfl #[] rfl (by (try simp only [List.map_toArray, List.map_cons, List.map_nil]); first | done | rfl | (simp only [List.length_drop, List.length_take]; rfl)) ?_; (with_reducible refine (catchmentlaw03_live.calls k1  t207 _ A11.out).mono ?_); rintro e w12 ⟨rfl, hb⟩; refine ⟨_, rfl, ?_⟩; have n0_ := Aside0.mk (below_step (by repeat (first | (with_reducible first | exact HB.out | apply below_alloc | apply pw_below_drewN | apply below_drew1) | exact HB.out)) hb); clear HB; have HB := n0_; clear n0_; (try clear hb); (try clear hb2); (try clear hk); (try clear hi)))
                go_ret
                exact ⟨by first | rfl | (simp [errW_none, errW_some] <;> rfl) | (simp only [← hji4]; first | rfl | (simp [errW_none, errW_some] <;> rfl)) | (simp [*, errW_none, errW_some] <;> rfl), by repeat (first | (with_reducible first | exact HB.out | apply below_alloc | apply pw_below_drewN | apply below_drew1) | exact HB.out)⟩
              · rw [if_neg c10] at H
                have c10b0 : decide (300 < ((rdOf ByteArray.empty t205_ x7_1).size : Int)) = false := decide_eq_false c10
                have c10b1 : decide (300 < (rdOf ByteArray.empty t205_ x7_1).size) = false := decide_eq_false (by omega)
                clear c10
                have H' := Aside0.mk H
                clear H
                have p206 : 0 ≤ (x7_1 : Int) := of_decide_eq_true (by first | (with_reducible assumption) | assumption)
                have q206 : x7_1 < (t205_.length : Int) := of_decide_eq_true (by first | (with_reducible assumption) | assumption)
                obtain ⟨ad206, e206, hx206_0⟩ := Kd.at_string HR205.out x7_1 p206 q206
                cases e206
                replace hx206_0 := (HB.out.cell (World.block_lt_of_cell? w _ hx206_0)).trans hx206_0
                replace p206 := eq_true p206
                replace q206 := eq_true q206
                go_wp2
                go_roundg k1
                case measure => have := HK1.out; omega
                case rel => exact ⟨(wrap64 (x7_1 + 1)), (by first | rfl | (simp; done) | (simp [*]; done)), H', ⟨by have := HK1.out; omega⟩, ⟨by repeat (first | (with_reducible first | exact HB.out | apply below_alloc | apply pw_below_drewN | apply below_drew1) | exact HB.out)⟩⟩
            · rw [if_neg c9] at H
              exact absurd H (by simp)
          · rw [if_neg c8] at H
            have c8b0 : decide (x7_1 < (t205_.length : Int)) = false := decide_eq_false c8
            clear c8
            by_cases c13 : (a2.size : Int) > 1000
            · rw [if_pos c13] at H
              have c13b0 : decide (1000 < (a2.size : Int)) = true := decide_eq_true c13
              have c13b1 : decide (1000 < a2.size) = true := decide_eq_true (by omega)
              clear c13
              replace H := Option.bind_eq_some_iff.mp H
              obtain ⟨t208, A140, H⟩ := H
              replace H : (some t208) = some r := H
              have A14 := Aside0.mk A140
              clear A140
              obtain rfl := Option.some.inj H
              go_wp2_with (first | ((with_reducible refine gate_callee (f := 17) rfl ?_); refine goesL_ (some 37) rfl rfl Try.func17 (by kernel_rfl) rfl #[] rfl (by (try simp only [List.map_toArray, List.map_cons, List.map_nil]); first | done | rfl | (simp only [List.length_drop, List.length_take]; rfl)) ?_; (with_reducible refine (catchmentlaw03_live.calls k1  t208 _ A14.out).mono ?_); rintro e w15 ⟨rfl, hb⟩; refine ⟨_, rfl, ?_⟩; have n0_ := Aside0.mk (below_step (by repeat (first | (with_reducible first | exact HB.out | apply below_alloc | apply pw_below_drewN | apply below_drew1) | exact HB.out)) hb); clear HB; have HB := n0_; clear n0_; (try clear hb); (try clear hb2); (try clear hk); (try clear hi)))
              go_ret
              exact ⟨by first | rfl | (simp [errW_none, errW_some] <;> rfl) | (simp only [← hji4]; first | rfl | (simp [errW_none, errW_some] <;> rfl)) | (simp [*, errW_none, errW_some] <;> rfl), by repeat (first | (with_reducible first | exact HB.out | apply below_alloc | apply pw_below_drewN | apply below_drew1) | exact HB.out)⟩
            · rw [if_neg c13] at H
              have c13b0 : decide (1000 < (a2.size : Int)) = false := decide_eq_false c13
              have c13b1 : decide (1000 < a2.size) = false := decide_eq_false (by omega)
              clear c13
              replace H := Option.bind_eq_some_iff.mp H
              obtain ⟨t209, A160, H⟩ := H
              replace H : (if t209.size + a2.size ≤ 9223372036854775807 then ((word_TakeNum.f k1 (t209 ++ a2)).bind fun bt210 => (if a0 ≥ 0 then (if a0 ≤ 2147483647 then (if bt210.1 = a0 then (if bt210.2.1.toList = a2.toList then (if bt210.2.2 = 0 then (if (t209.size : Int) < 1 then (catchmentlaw03_WordBack.j1 k1 t205_ a2 true) else (catchmentlaw03_WordBack.j1 k1 t205_ a2 (decide ((t209.size : Int) > 5)))) else (catchmentlaw03_WordBack.j1 k1 t205_ a2 true)) else (catchmentlaw03_WordBack.j1 k1 t205_ a2 true)) else (catchmentlaw03_WordBack.j1 k1 t205_ a2 true)) else (catchmentlaw03_WordBack.j1 k1 t205_ a2 false)) else (catchmentlaw03_WordBack.j1 k1 t205_ a2 false))) else (none)) = some r := H
              have A16 := Aside0.mk A160
              clear A160
              by_cases c17 : t209.size + a2.size ≤ 9223372036854775807
              · rw [if_pos c17] at H
                have c17b0 := eq_true c17
                have c17b1 : decide (t209.size + a2.size ≤ 9223372036854775807) = true := decide_eq_true c17
                try have c17b2 : (9223372036854775807 < t209.size + a2.size) = False := eq_false (Nat.not_lt.2 c17)
                replace H := Option.bind_eq_some_iff.mp H
                obtain ⟨⟨t210, t211, t212⟩, A180, H⟩ := H
                replace H : (if a0 ≥ 0 then (if a0 ≤ 2147483647 then (if t210 = a0 then (if t211.toList = a2.toList then (if t212 = 0 then (if (t209.size : Int) < 1 then (catchmentlaw03_WordBack.j1 k1 t205_ a2 true) else (catchmentlaw03_WordBack.j1 k1 t205_ a2 (decide ((t209.size : Int) > 5)))) else (catchmentlaw03_WordBack.j1 k1 t205_ a2 true)) else (catchmentlaw03_WordBack.j1 k1 t205_ a2 true)) else (catchmentlaw03_WordBack.j1 k1 t205_ a2 true)) else (catchmentlaw03_WordBack.j1 k1 t205_ a2 false)) else (catchmentlaw03_WordBack.j1 k1 t205_ a2 false)) = some r := H
                have A18 := Aside0.mk A180
                clear A180
                have HC19 := Aside0.mk H
                clear H
                go_upto_region 11 with (first | ((with_reducible refine gate_callee (f := 29) rfl ?_); refine goesL_ (some 39) rfl rfl Try.func29 (by kernel_rfl) rfl #[.int .i64 a0] rfl (by (try simp only [List.map_toArray, List.map_cons, List.map_nil]); first | done | rfl | (simp only [List.length_drop, List.length_take]; rfl)) ?_; (with_reducible refine (word_Num.calls k1 a0 t209 _ A16.out).mono ?_); rintro e w20 ⟨rfl, hb⟩; refine ⟨_, rfl, ?_⟩; have n0_ := Aside0.mk (below_step (by repeat (first | (with_reducible first | exact HB.out | apply below_alloc | apply pw_below_drewN | apply below_drew1) | exact HB.out)) hb); clear HB; have HB := n0_; clear n0_; (try clear hb); (try clear hb2); (try clear hk); (try clear hi)) | ((with_reducible refine gate_callee (f := 22) rfl ?_); refine goesL_ (some 44) rfl rfl Try.func22 (by kernel_rfl) rfl #[.string (t209 ++ a2)] rfl (by (try simp only [List.map_toArray, List.map_cons, List.map_nil]); first | done | rfl | (simp only [List.length_drop, List.length_take]; rfl)) ?_; (with_reducible refine (word_TakeNum.calls k1 (t209 ++ a2) t210 t211 t212 _ A18.out).mono ?_); rintro e w' ⟨rfl, ⟨nd, rfl⟩⟩; refine ⟨_, rfl, ?_⟩))
                (try simp only [Act.put, List.setIfInBounds_toArray, List.set_cons_zero, List.set_cons_succ])
                go_cut [77] (fun v77 wc => ∃ (kq : Nat) (x77_18 : Bool), v77 = .bool x77_18 ∧ Aside0 (catchmentlaw03_WordBack.j1 kq t205_ a2 x77_18 = some r) ∧ Aside0 (kq ≤ k1) ∧ Aside0 (Below w.heap.size w wc))
                case first =>
                  have H := HC19.out
                  clear HC19
                  by_cases c21 : a0 ≥ 0
                  · rw [if_pos c21] at H
                    have c21b0 : decide (0 ≤ a0) = true := decide_eq_true c21
                    clear c21
                    (first | rw [c21b0] | (simp only [i64_w, i32_w]; rw [c21b0]) | skip)
                    by_cases c22 : a0 ≤ 2147483647
                    · rw [if_pos c22] at H
                      have c22b0 : decide (a0 ≤ 2147483647) = true := decide_eq_true c22
                      clear c22
                      by_cases c23 : t210 = a0
                      · rw [if_pos c23] at H
                        have c23b0 : (t210 == a0) = true := beq_iff_eq.mpr c23
                        have c23b1 : (t210 != a0) = false := bne_eq_false_iff_eq.mpr c23
                        clear c23
                        by_cases c24 : t211.toList = a2.toList
                        · rw [if_pos c24] at H
                          have c24b0 : (t211.toList == a2.toList) = true := beq_iff_eq.mpr c24
                          have c24b1 : (t211.toList != a2.toList) = false := bne_eq_false_iff_eq.mpr c24
                          clear c24
                          by_cases c25 : t212 = 0
                          · rw [if_pos c25] at H
                            have c25b0 : (t212 == 0) = true := beq_iff_eq.mpr c25
                            have c25b1 : (t212 != 0) = false := bne_eq_false_iff_eq.mpr c25
                            clear c25
                            by_cases c26 : (t209.size : Int) < 1
                            · rw [if_pos c26] at H
                              have c26b0 : decide ((t209.size : Int) < 1) = true := decide_eq_true c26
                              have c26b1 : decide (t209.size < 1) = true := decide_eq_true (by omega)
                              clear c26
                              have H' := Aside0.mk H
                              clear H
                              go_wp2
                              go_meet
                              case rel => exact ⟨_, (true), (by first | rfl | (simp; done) | (simp [*]; done)), H', ⟨by have := HK1.out; first | omega | exact Nat.le_refl _⟩, ⟨by repeat (first | (with_reducible first | exact HB.out | apply below_alloc | apply pw_below_drewN | apply below_drew1) | exact HB.out)⟩⟩
                            · rw [if_neg c26] at H
                              have c26b0 : decide ((t209.size : Int) < 1) = false := decide_eq_false c26
                              have c26b1 : decide (t209.size < 1) = false := decide_eq_false (by omega)
                              clear c26
                              have H' := Aside0.mk H
                              clear H
                              go_wp2
                              go_meet
                              case rel => exact ⟨_, (decide ((t209.size : Int) > 5)), (by first | rfl | (simp; done) | (simp [*]; done)), H', ⟨by have := HK1.out; first | omega | exact Nat.le_refl _⟩, ⟨by repeat (first | (with_reducible first | exact HB.out | apply below_alloc | apply pw_below_drewN | apply below_drew1) | exact HB.out)⟩⟩
                          · rw [if_neg c25] at H
                            have c25b0 : (t212 == 0) = false := beq_eq_false_iff_ne.mpr c25
                            have c25b1 : (t212 != 0) = true := bne_iff_ne.mpr c25
                            have H' := Aside0.mk H
                            clear H
                            go_wp2
                            go_meet
                            case rel => exact ⟨_, (true), (by first | rfl | (simp; done) | (simp [*]; done)), H', ⟨by have := HK1.out; first | omega | exact Nat.le_refl _⟩, ⟨by repeat (first | (with_reducible first | exact HB.out | apply below_alloc | apply pw_below_drewN | apply below_drew1) | exact HB.out)⟩⟩
                        · rw [if_neg c24] at H
                          have c24b0 : (t211.toList == a2.toList) = false := beq_eq_false_iff_ne.mpr c24
                          have c24b1 : (t211.toList != a2.toList) = true := bne_iff_ne.mpr c24
                          have H' := Aside0.mk H
                          clear H
                          go_wp2
                          go_meet
                          case rel => exact ⟨_, (true), (by first | rfl | (simp; done) | (simp [*]; done)), H', ⟨by have := HK1.out; first | omega | exact Nat.le_refl _⟩, ⟨by repeat (first | (with_reducible first | exact HB.out | apply below_alloc | apply pw_below_drewN | apply below_drew1) | exact HB.out)⟩⟩
                      · rw [if_neg c23] at H
                        have c23b0 : (t210 == a0) = false := beq_eq_false_iff_ne.mpr c23
                        have c23b1 : (t210 != a0) = true := bne_iff_ne.mpr c23
                        have H' := Aside0.mk H
                        clear H
                        go_wp2
                        go_meet
                        case rel => exact ⟨_, (true), (by first | rfl | (simp; done) | (simp [*]; done)), H', ⟨by have := HK1.out; first | omega | exact Nat.le_refl _⟩, ⟨by repeat (first | (with_reducible first | exact HB.out | apply below_alloc | apply pw_below_drewN | apply below_drew1) | exact HB.out)⟩⟩
                    · rw [if_neg c22] at H
                      have c22b0 : decide (a0 ≤ 2147483647) = false := decide_eq_false c22
                      clear c22
                      have H' := Aside0.mk H
                      clear H
                      go_wp2
                      go_meet
                      case rel => exact ⟨_, (false), (by first | rfl | (simp; done) | (simp [*]; done)), H', ⟨by have := HK1.out; first | omega | exact Nat.le_refl _⟩, ⟨by repeat (first | (with_reducible first | exact HB.out | apply below_alloc | apply pw_below_drewN | apply below_drew1) | exact HB.out)⟩⟩
                  · rw [if_neg c21] at H
                    have c21b0 : decide (0 ≤ a0) = false := decide_eq_false c21
                    clear c21
                    (first | rw [c21b0] | (simp only [i64_w, i32_w]; rw [c21b0]) | skip)
                    have H' := Aside0.mk H
                    clear H
                    go_wp2
                    go_meet
                    case rel => exact ⟨_, (false), (by first | rfl | (simp; done) | (simp [*]; done)), H', ⟨by have := HK1.out; first | omega | exact Nat.le_refl _⟩, ⟨by repeat (first | (with_reducible first | exact HB.out | apply below_alloc | apply pw_below_drewN | apply below_drew1) | exact HB.out)⟩⟩
                case rest =>
                  clear HC19
                  try clear c1
                  try clear c2
                  try clear p2
                  try clear q2
                  try clear hx2
                  try clear c5
                  try clear c5b0
                  try clear c5b1
                  try clear c6
                  try clear c6b0
                  try clear c6b1
                  try clear p6
                  try clear c8
                  try clear c8b0
                  try clear c9
                  try clear c9b0
                  try clear c10
                  try clear c10b0
                  try clear c10b1
                  try clear c13
                  try clear c13b0
                  try clear c13b1
                  try clear c17
                  try clear c17b0
                  try clear c17b1
                  try clear c17b2
                  try clear p20
                  try clear q20
                  try clear hx20
                  try clear c21
                  try clear c21b0
                  try clear c22
                  try clear c22b0
                  try clear c23
                  try clear c23b0
                  try clear c23b1
                  try clear c24
                  try clear c24b0
                  try clear c24b1
                  try clear c25
                  try clear c25b0
                  try clear c25b1
                  try clear c26
                  try clear c26b0
                  try clear c26b1
                  try clear hx206_0
                  try clear p2
                  try clear p206
                  try clear q206
                  obtain ⟨kq, x77_18, rfl, HA, HJ18, HB⟩ := hcut
                  cases kq with
                  | zero => exact absurd HA.out (by simp [catchmentlaw03_WordBack.j1])
                  | succ kj18 =>
                    have H := HA.out
                    clear HA
                    simp only [catchmentlaw03_WordBack.j1] at H
                    by_cases c27 : x77_18 = true
                    · subst c27
                      have H1 : (none) = some r := by rw [if_pos rfl] at H; exact H
                      clear H
                      have H := H1
                      clear H1
                      exact absurd H (by simp)
                    · replace c27 := Bool.eq_false_iff.mpr c27
                      subst c27
                      have H1 : ((word_Texts.f kj18 t205_).bind fun t213 => (if t213.size + a2.size ≤ 9223372036854775807 then ((word_TakeTexts.f kj18 (t213 ++ a2) (t205_.length : Int) 300).bind fun bt214 => ((catchmentlaw03_live.f kj18).bind fun t219 => (if t219 = true then ((catchmentref03_Texts.f kj18 t205_).bind fun t220 => (if t213.toList = t220.toList then (if bt214.2.2 = 0 then (if bt214.2.1.toList = a2.toList then ((catchmentref03_Same.f kj18 bt214.1 t205_).bind fun t221 => (if t221 = true then ((word_Text.f kj18 a2).bind fun t222 => ((catchmentref03_Texts.f kj18 (([a2] : List ByteArray))).bind fun t226 => (some (t222.toList == t226.toList)))) else (none))) else (none)) else (none)) else (none))) else (none)))) else (none))) = some r := by rw [if_neg (show ¬ (false = true) by decide)] at H; exact H
                      clear H
                      have H := H1
                      clear H1
                      replace H := Option.bind_eq_some_iff.mp H
                      obtain ⟨t213, A280, H⟩ := H
                      replace H : (if t213.size + a2.size ≤ 9223372036854775807 then ((word_TakeTexts.f kj18 (t213 ++ a2) (t205_.length : Int) 300).bind fun bt214 => ((catchmentlaw03_live.f kj18).bind fun t219 => (if t219 = true then ((catchmentref03_Texts.f kj18 t205_).bind fun t220 => (if t213.toList = t220.toList then (if bt214.2.2 = 0 then (if bt214.2.1.toList = a2.toList then ((catchmentref03_Same.f kj18 bt214.1 t205_).bind fun t221 => (if t221 = true then ((word_Text.f kj18 a2).bind fun t222 => ((catchmentref03_Texts.f kj18 (([a2] : List ByteArray))).bind fun t226 => (some (t222.toList == t226.toList)))) else (none))) else (none)) else (none)) else (none))) else (none)))) else (none)) = some r := H
                      have A28 := Aside0.mk A280
                      clear A280
                      by_cases c29 : t213.size + a2.size ≤ 9223372036854775807
                      · rw [if_pos c29] at H
                        have c29b0 := eq_true c29
                        have c29b1 : decide (t213.size + a2.size ≤ 9223372036854775807) = true := decide_eq_true c29
                        try have c29b2 : (9223372036854775807 < t213.size + a2.size) = False := eq_false (Nat.not_lt.2 c29)
                        replace H := Option.bind_eq_some_iff.mp H
                        obtain ⟨⟨t214, t215, t216⟩, A300, H⟩ := H
                        replace H : ((catchmentlaw03_live.f kj18).bind fun t219 => (if t219 = true then ((catchmentref03_Texts.f kj18 t205_).bind fun t220 => (if t213.toList = t220.toList then (if t216 = 0 then (if t215.toList = a2.toList then ((catchmentref03_Same.f kj18 t214 t205_).bind fun t221 => (if t221 = true then ((word_Text.f kj18 a2).bind fun t222 => ((catchmentref03_Texts.f kj18 (([a2] : List ByteArray))).bind fun t226 => (some (t222.toList == t226.toList)))) else (none))) else (none)) else (none)) else (none))) else (none))) = some r := H
                        have A30 := Aside0.mk A300
                        clear A300
                        replace H := Option.bind_eq_some_iff.mp H
                        obtain ⟨t219, A310, H⟩ := H
                        replace H : (if t219 = true then ((catchmentref03_Texts.f kj18 t205_).bind fun t220 => (if t213.toList = t220.toList then (if t216 = 0 then (if t215.toList = a2.toList then ((catchmentref03_Same.f kj18 t214 t205_).bind fun t221 => (if t221 = true then ((word_Text.f kj18 a2).bind fun t222 => ((catchmentref03_Texts.f kj18 (([a2] : List ByteArray))).bind fun t226 => (some (t222.toList == t226.toList)))) else (none))) else (none)) else (none)) else (none))) else (none)) = some r := H
                        have A31 := Aside0.mk A310
                        clear A310
                        by_cases c32 : t219 = true
                        · subst c32
                          have H1 : ((catchmentref03_Texts.f kj18 t205_).bind fun t220 => (if t213.toList = t220.toList then (if t216 = 0 then (if t215.toList = a2.toList then ((catchmentref03_Same.f kj18 t214 t205_).bind fun t221 => (if t221 = true then ((word_Text.f kj18 a2).bind fun t222 => ((catchmentref03_Texts.f kj18 (([a2] : List ByteArray))).bind fun t226 => (some (t222.toList == t226.toList)))) else (none))) else (none)) else (none)) else (none))) = some r := by rw [if_pos rfl] at H; exact H
                          clear H
                          have H := H1
                          clear H1
                          replace H := Option.bind_eq_some_iff.mp H
                          obtain ⟨t220, A330, H⟩ := H
                          replace H : (if t213.toList = t220.toList then (if t216 = 0 then (if t215.toList = a2.toList then ((catchmentref03_Same.f kj18 t214 t205_).bind fun t221 => (if t221 = true then ((word_Text.f kj18 a2).bind fun t222 => ((catchmentref03_Texts.f kj18 (([a2] : List ByteArray))).bind fun t226 => (some (t222.toList == t226.toList)))) else (none))) else (none)) else (none)) else (none)) = some r := H
                          have A33 := Aside0.mk A330
                          clear A330
                          by_cases c34 : t213.toList = t220.toList
                          · rw [if_pos c34] at H
                            have c34b0 : (t213.toList == t220.toList) = true := beq_iff_eq.mpr c34
                            have c34b1 : (t213.toList != t220.toList) = false := bne_eq_false_iff_eq.mpr c34
                            clear c34
                            by_cases c35 : t216 = 0
                            · rw [if_pos c35] at H
                              have c35b0 : (t216 == 0) = true := beq_iff_eq.mpr c35
                              have c35b1 : (t216 != 0) = false := bne_eq_false_iff_eq.mpr c35
                              clear c35
                              by_cases c36 : t215.toList = a2.toList
                              · rw [if_pos c36] at H
                                have c36b0 : (t215.toList == a2.toList) = true := beq_iff_eq.mpr c36
                                have c36b1 : (t215.toList != a2.toList) = false := bne_eq_false_iff_eq.mpr c36
                                clear c36
                                replace H := Option.bind_eq_some_iff.mp H
                                obtain ⟨t221, A370, H⟩ := H
                                replace H : (if t221 = true then ((word_Text.f kj18 a2).bind fun t222 => ((catchmentref03_Texts.f kj18 (([a2] : List ByteArray))).bind fun t226 => (some (t222.toList == t226.toList)))) else (none)) = some r := H
                                have A37 := Aside0.mk A370
                                clear A370
                                by_cases c38 : t221 = true
                                · subst c38
                                  have H1 : ((word_Text.f kj18 a2).bind fun t222 => ((catchmentref03_Texts.f kj18 (([a2] : List ByteArray))).bind fun t226 => (some (t222.toList == t226.toList)))) = some r := by rw [if_pos rfl] at H; exact H
                                  clear H
                                  have H := H1
                                  clear H1
                                  replace H := Option.bind_eq_some_iff.mp H
                                  obtain ⟨t222, A390, H⟩ := H
                                  replace H : ((catchmentref03_Texts.f kj18 (([a2] : List ByteArray))).bind fun t226 => (some (t222.toList == t226.toList))) = some r := H
                                  have A39 := Aside0.mk A390
                                  clear A390
                                  obtain ⟨y223, hy223⟩ : ∃ y_ : List ByteArray, y_ = (([a2] : List ByteArray)) := ⟨_, rfl⟩
                                  replace H : ((catchmentref03_Texts.f kj18 y223).bind fun t226 => (some (t222.toList == t226.toList))) = some r := by first | (rw [hy223]; with_reducible exact H) | (have H2_ := (Option.bind_some _ _).symm.trans H; rw [hy223]; with_reducible exact H2_) | (have H2_ := (Option.bind_some _ _).symm.trans H; with_reducible exact H2_) | with_reducible exact H | (rw [hy223]; exact H) | exact H
                                  have Ny223 := Aside0.mk hy223
                                  clear hy223
                                  replace H := Option.bind_eq_some_iff.mp H
                                  obtain ⟨t226, A400, H⟩ := H
                                  replace H : (some (t222.toList == t226.toList)) = some r := H
                                  have A40 := Aside0.mk A400
                                  clear A400
                                  obtain rfl := Option.some.inj H
                                  go_wp2_with (first | ((with_reducible refine gate_callee (f := 44) rfl ?_); refine goesL_ (some 79) rfl rfl Try.func44 (by kernel_rfl) rfl #[.slice A1 t205_.length c1] rfl (by (try simp only [List.map_toArray, List.map_cons, List.map_nil]); first | done | (rw [show t205_.length = ((t205_.length : Int)).toNat from (by rw [List.length_take]; have h_ : (((t205_.length : Int)) : Int) ≤ (l1.length : Int) := of_decide_eq_true (by first | (with_reducible assumption) | assumption); omega)] <;> rfl) | (simp only [hji4]; rfl) | rfl | (simp only [List.length_drop, List.length_take]; rfl)) ?_; (with_reducible refine (word_Texts.calls kj18 _ _ t205_ t213 _ ?side1 ?side2 A28.out).mono ?_); (case side1 => repeat (first | exact (Kd.C_below HR205.out HB.out) | (with_reducible refine Kd.C_alloc ?_ _) | (with_reducible refine Kd.C_drewN ?_ _) | (with_reducible refine Kd.C_drew ?_))); (case side2 => exact HC205.out); rintro e w41 ⟨rfl, hb⟩; refine ⟨_, rfl, ?_⟩; have n0_ := Aside0.mk (below_step (by repeat (first | (with_reducible first | exact HB.out | apply below_alloc | apply pw_below_drewN | apply below_drew1) | exact HB.out)) hb); clear HB; have HB := n0_; clear n0_; (try clear hb); (try clear hb2); (try clear hk); (try clear hi)) | ((with_reducible refine gate_callee (f := 26) rfl ?_); refine goesL_ (some 86) rfl rfl Try.func26 (by kernel_rfl) rfl #[.string (t213 ++ a2), .int .i64 (t205_.length : Int), .int .i64 300] rfl (by (try simp only [List.map_toArray, List.map_cons, List.map_nil]); first | done | (simp only [hji4]; rfl) | rfl | (simp only [List.length_drop, List.length_take]; rfl)) ?_; (with_reducible refine (word_TakeTexts.calls kj18 (t213 ++ a2) (t205_.length : Int) 300 t214 t215 t216 _ A30.out).mono ?_); rintro e w42 ⟨v217, rfl, ho0, hb⟩; refine ⟨_, rfl, ?_⟩; have n0_ := Aside0.mk (Kd.R_lower ho0 (below_size (by repeat (first | (with_reducible first | exact HB.out | apply below_alloc | apply pw_below_drewN | apply below_drew1) | exact HB.out)))); have n1_ := Aside0.mk (below_step (by repeat (first | (with_reducible first | exact HB.out | apply below_alloc | apply pw_below_drewN | apply below_drew1) | exact HB.out)) hb); clear HB; have HO218 := n0_; have HB := n1_; clear n0_ n1_; (try clear hb); (try clear hb2); (try clear hk); (try clear hi); (try clear ho0)) | ((with_reducible refine gate_callee (f := 17) rfl ?_); refine goesL_ (some 90) rfl rfl Try.func17 (by kernel_rfl) rfl #[] rfl (by (try simp only [List.map_toArray, List.map_cons, List.map_nil]); first | done | rfl | (simp only [List.length_drop, List.length_take]; rfl)) ?_; (with_reducible refine (catchmentlaw03_live.calls kj18  true _ A31.out).mono ?_); rintro e w43 ⟨rfl, hb⟩; refine ⟨_, rfl, ?_⟩; have n0_ := Aside0.mk (Kd.R_below (by (with_reducible repeat (first | apply Kd.R_alloc | apply Kd.R_drewN | apply Kd.R_drew)); exact HO218.out) hb); have n1_ := Aside0.mk (below_step (by repeat (first | (with_reducible first | exact HB.out | apply below_alloc | apply pw_below_drewN | apply below_drew1) | exact HB.out)) hb); clear HO218; clear HB; have HO218 := n0_; have HB := n1_; clear n0_ n1_; (try clear hb); (try clear hb2); (try clear hk); (try clear hi)) | (go_at_call 45; (with_reducible refine (catchmentref03_Texts.calls kj18 _ _ t205_ t220 _ ?side1 ?side2 A33.out).mono ?_); (case side1 => repeat (first | exact (Kd.C_below HR205.out HB.out) | (with_reducible refine Kd.C_alloc ?_ _) | (with_reducible refine Kd.C_drewN ?_ _) | (with_reducible refine Kd.C_drew ?_))); (case side2 => exact HC205.out); rintro e w44 ⟨rfl, hb⟩; have n0_ := Aside0.mk (Kd.R_below (by (with_reducible repeat (first | apply Kd.R_alloc | apply Kd.R_drewN | apply Kd.R_drew)); exact HO218.out) hb); have n1_ := Aside0.mk (below_step (by repeat (first | (with_reducible first | exact HB.out | apply below_alloc | apply pw_below_drewN | apply below_drew1) | exact HB.out)) hb); clear HO218; clear HB; have HO218 := n0_; have HB := n1_; clear n0_ n1_; (try clear hb); (try clear hb2); (try clear hk); (try clear hi); obtain ⟨Ao45, co45, eo45⟩ := Kd.R_slice HO218.out; subst eo45) | (go_at_call 28; (with_reducible refine (catchmentref03_Same.calls kj18 _ _ t214 _ _ t205_ true _ ?side1 ?side2 ?side3 ?side4 A37.out).mono ?_); (case side1 => repeat (first | exact (Kd.R_reads' HO218.out).2.2 | (with_reducible refine Kd.C_alloc ?_ _) | (with_reducible refine Kd.C_drewN ?_ _) | (with_reducible refine Kd.C_drew ?_))); (case side2 => exact (Kd.R_reads' HO218.out).2.1); (case side3 => repeat (first | exact (Kd.C_below HR205.out HB.out) | (with_reducible refine Kd.C_alloc ?_ _) | (with_reducible refine Kd.C_drewN ?_ _) | (with_reducible refine Kd.C_drew ?_))); (case side4 => exact HC205.out); rintro e w' ⟨rfl, ⟨nd, rfl⟩⟩) | (go_at_call 46; (with_reducible refine (word_Text.calls kj18 a2 t222 _ A39.out).mono ?_); rintro e w46 ⟨rfl, hb⟩; have n0_ := Aside0.mk (Kd.R_below (by (with_reducible repeat (first | apply Kd.R_alloc | apply Kd.R_drewN | apply Kd.R_drew)); exact HO218.out) hb); have n1_ := Aside0.mk (below_step (by repeat (first | (with_reducible first | exact HB.out | apply below_alloc | apply pw_below_drewN | apply below_drew1) | exact HB.out)) hb); clear HO218; clear HB; have HO218 := n0_; have HB := n1_; clear n0_ n1_; (try clear hb); (try clear hb2); (try clear hk); (try clear hi)) | ((with_reducible refine gate_dst (N := 115) rfl ?_); (try (refine gate_guard (by rfl) ?_; dsimp only)); refine Kd.R_lit Kd.string _ 9 ?hg (N := 115) ?hd (xs := ([a2] : List ByteArray)) (inner := [.string a2]) (ok := fun _ => True) (okp := fun _ => True) ?hr ?hp (fun _ hk => hk) trivial (Below.refl _ _) (Nat.le_refl _) (by simp) ?_; (case hd => rfl); (case hg => rfl); (case hr => first | (go_simp; done) | (go_simp; rfl)); (case hp => exact (Reps.one (show Kd.M Kd.string _ _ _ a2 [.string a2] from rfl) (Reps.none _ _))); intro v224 w47 ho48 hb hg_ hnew_; clear hg_ hnew_; (first | rw [← Ny223.out] at ho48 | (simp only [Int.reduceToNat] at ho48; rw [← Ny223.out] at ho48)); have n0_ := Aside0.mk (Kd.R_elder' (by (with_reducible repeat (first | apply Kd.R_alloc | apply Kd.R_drewN | apply Kd.R_drew)); exact HO218.out) (Kd.R_base ho48) hb); have n1_ := Aside0.mk (Kd.R_lower (Kd.R_new' ho48 (Kd.R_lt (by (with_reducible repeat (first | apply Kd.R_alloc | apply Kd.R_drewN | apply Kd.R_drew)); exact HO218.out))) (below_size (by repeat (first | (with_reducible first | exact HB.out | apply below_alloc | apply pw_below_drewN | apply below_drew1) | exact HB.out)))); have n2_ := Aside0.mk (below_step (by repeat (first | (with_reducible first | exact HB.out | apply below_alloc | apply pw_below_drewN | apply below_drew1) | exact HB.out)) hb); clear HO218; clear HB; have HO218 := n0_; have HO225 := n1_; have HB := n2_; clear n0_ n1_ n2_; clear hb ho48; obtain ⟨Ao49, co49, eo49⟩ := Kd.R_slice HO225.out; subst eo49) | (go_at_call 45; (with_reducible refine (catchmentref03_Texts.calls kj18 _ _ y223 t226 _ ?side1 ?side2 A40.out).mono ?_); (case side1 => repeat (first | exact (Kd.R_reads' HO225.out).2.2 | (with_reducible refine Kd.C_alloc ?_ _) | (with_reducible refine Kd.C_drewN ?_ _) | (with_reducible refine Kd.C_drew ?_))); (case side2 => exact (Kd.R_reads' HO225.out).2.1); rintro e w50 ⟨rfl, hb⟩; have n0_ := Aside0.mk (Kd.R_below (by (with_reducible repeat (first | apply Kd.R_alloc | apply Kd.R_drewN | apply Kd.R_drew)); exact HO218.out) hb); have n1_ := Aside0.mk (Kd.R_below (by (with_reducible repeat (first | apply Kd.R_alloc | apply Kd.R_drewN | apply Kd.R_drew)); exact HO225.out) hb); have n2_ := Aside0.mk (below_step (by repeat (first | (with_reducible first | exact HB.out | apply below_alloc | apply pw_below_drewN | apply below_drew1) | exact HB.out)) hb); clear HO218; clear HO225; clear HB; have HO218 := n0_; have HO225 := n1_; have HB := n2_; clear n0_ n1_ n2_; (try clear hb); (try clear hb2); (try clear hk); (try clear hi)))
                                  go_ret
                                  exact ⟨by first | rfl | (simp [errW_none, errW_some] <;> rfl) | (simp only [← hji4]; first | rfl | (simp [errW_none, errW_some] <;> rfl)) | (simp [*, errW_none, errW_some] <;> rfl), by repeat (first | (with_reducible first | exact HB.out | apply below_alloc | apply pw_below_drewN | apply below_drew1) | exact HB.out)⟩
                                · replace c38 := Bool.eq_false_iff.mpr c38
                                  subst c38
                                  have H1 : (none) = some r := by rw [if_neg (show ¬ (false = true) by decide)] at H; exact H
                                  clear H
                                  have H := H1
                                  clear H1
                                  exact absurd H (by simp)
                              · rw [if_neg c36] at H
                                exact absurd H (by simp)
                            · rw [if_neg c35] at H
                              exact absurd H (by simp)
                          · rw [if_neg c34] at H
                            exact absurd H (by simp)
                        · replace c32 := Bool.eq_false_iff.mpr c32
                          subst c32
                          have H1 : (none) = some r := by rw [if_neg (show ¬ (false = true) by decide)] at H; exact H
                          clear H
                          have H := H1
                          clear H1
                          exact absurd H (by simp)
                      · rw [if_neg c29] at H
                        exact absurd H (by simp)
              · rw [if_neg c17] at H
                exact absurd H (by simp)
    · rw [if_neg c6] at H
      exact absurd H (by simp)
  · rw [if_neg c5] at H
    exact absurd H (by simp)
/-- THE ONE PURE STATEMENT of catchmentlaw03_WordBack. -/
def catchmentlaw03_WordBack.Pure : Prop := ∀ (a0 : Int) (l1 : List ByteArray) (a2 : ByteArray), (fun x : Int => (Lit.int .i64 x).wf = true) a0 → (fun xs : List ByteArray => xs.length ≤ maxLen ∧ xs.length * 16 ≤ 140737488351232 ∧ ∀ x ∈ xs, (fun s : ByteArray => s.size ≤ 140737488351232) x) l1 → (fun s : ByteArray => s.size ≤ 140737488351232) a2 → ∃ k, catchmentlaw03_WordBack.f k a0 l1 a2 = some true
theorem catchmentlaw03_WordBack.walk (P : catchmentlaw03_WordBack.Pure) (a0 : Int) (A1 : Option Addr) (c1 : Nat) (l1 : List ByteArray) (a2 : ByteArray) (w : World) (hr1 : Kd.C Kd.string w A1 l1.length l1) (hc1 : l1.length ≤ c1) (ok_0 : (fun x : Int => (Lit.int .i64 x).wf = true) a0) (ok_1 : (fun xs : List ByteArray => xs.length ≤ maxLen ∧ xs.length * 16 ≤ 140737488351232 ∧ ∀ x ∈ xs, (fun s : ByteArray => s.size ≤ 140737488351232) x) l1) (ok_2 : (fun s : ByteArray => s.size ≤ 140737488351232) a2) :
    Calls Try.prog 9 #[.int .i64 a0, .slice A1 l1.length c1, .string a2] w fun e w' => e = .returned (.bool true) ∧ Below w.heap.size w w' := by
  obtain ⟨k, h⟩ := P a0 l1 a2 ok_0 ok_1 ok_2
  refine (catchmentlaw03_WordBack.calls k a0 A1 c1 l1 a2 true w hr1 hc1 h).mono ?_
  rintro e w' ⟨rfl, hd⟩
  exact ⟨rfl, hd⟩

end Go.Proofs.Ytgbnhfppnglamaa.Q2
