/- tight -/ -- written by wip/myprint.py and wip/pack.py
import Derived.Test.YtpfikmchimlneaaM3x0
import Derived.Test.YtpfikmchimlneaaM3x57
-- written by a program of this session (wip/myprint.py), over the kit's printer and the session's own contracts
namespace Go.Proofs.Ytpfikmchimlneaa.M3
open Go.RowKit Go.Proofs.YtpfikmchimlneaaW.PrintWords Go.Proofs.YtpfikmchimlneaaW.PrintLast Go.Proofs.YtpfikmchimlneaaW.PrintMore Go.Proofs.YtpfikmchimlneaaW.Mine
attribute [local go_sem] max2_int min2_int max_two min_two max_three min_three max_four min_four max2_str min2_str binOp_gtr_str binOp_leq_str binOp_geq_str   -- for this text's walks alone
set_option linter.unusedVariables false
set_option linter.unusedSimpArgs false
/-! ### catchmentref05_Rises: function 46 -/
def catchmentref05_Rises.l0 : Nat → List (S85) → Int → Option (Bool)
  | 0, _, _ => none
  | k + 1, x0, x3 => if x3 < (x0.length : Int) then (if 0 ≤ (wrap64 (x3 - 1)) then (if (wrap64 (x3 - 1)) < (x0.length : Int) then (if 0 ≤ x3 then (if ((Op.bytesLess (((rd_T85 x0 (wrap64 (x3 - 1))).f0).toList) (((rd_T85 x0 x3).f0).toList)) = true) then (catchmentref05_Rises.l0 k x0 (wrap64 (x3 + 1))) else (some false)) else (none)) else (none)) else (none)) else (some true)
def catchmentref05_Rises.f (k : Nat) (l0 : List (S85)) : Option (Bool) := catchmentref05_Rises.l0 k l0 1
theorem catchmentref05_Rises.mono_l : ∀ k, (∀ y0 y1, LeO (catchmentref05_Rises.l0 k y0 y1) (catchmentref05_Rises.l0 (k + 1) y0 y1))
  | 0 => fun _ _ r h => by simp [catchmentref05_Rises.l0] at h
  | k + 1 => by
    have ih0 := catchmentref05_Rises.mono_l k
    · intro y0 y1
      unfold catchmentref05_Rises.l0
      repeat' first
      | (with_reducible exact ih0 _ _)
      | (with_reducible exact LeO.refl _)
      | (with_reducible exact LeO.none _)
      | (with_reducible refine LeO.ite ?_ ?_)
      | (with_reducible refine LeO.bind ?_ (fun _ => ?_))
      | exact ih0 _ _
      | exact LeO.none _
      | refine LeO.ite ?_ ?_
      | refine LeO.bind ?_ (fun _ => ?_)
theorem catchmentref05_Rises.mono : ∀ a0 k, LeO (catchmentref05_Rises.f k a0) (catchmentref05_Rises.f (k + 1) a0) := by
  (intro a0 k); (have ih0 := catchmentref05_Rises.mono_l k); (unfold catchmentref05_Rises.f)
  repeat' first
      | (with_reducible exact ih0 _ _)
      | (with_reducible exact LeO.refl _)
      | (with_reducible exact LeO.none _)
      | (with_reducible refine LeO.ite ?_ ?_)
      | (with_reducible refine LeO.bind ?_ (fun _ => ?_))
      | exact ih0 _ _
      | exact LeO.none _
      | refine LeO.ite ?_ ?_
      | refine LeO.bind ?_ (fun _ => ?_)
set_option maxHeartbeats 8000000 in
set_option maxRecDepth 100000 in
theorem catchmentref05_Rises.calls (k : Nat) (A0 : Option Addr) (c0 : Nat) (l0 : List (S85)) (r : Bool) (w : World) (hr0 : Kd.C k85 w A0 l0.length l0) (hc0 : l0.length ≤ c0) (h : catchmentref05_Rises.f k l0 = some r) :
    Calls Try.prog 46 #[.slice A0 l0.length c0] w fun e w' => e = .returned (.bool r) ∧ Drawn0 w w' := by
  (have HR0 := Aside0.mk hr0); (have HC0 := Aside0.mk hc0); (clear hr0 hc0); (have H : (catchmentref05_Rises.l0 k l0 1) = some r := h); (clear h); (have H' := Aside0.mk H); (clear H); (go_enter Try.func46, Try.ntmps46); (go_wp2); (repeat (go_quiet (fail); try go_wp2)); (go_loopg [3] k (fun kq v3 w' => ∃ (x3_1 : Int), v3 = .int .i64 x3_1 ∧ Aside0 (catchmentref05_Rises.l0 kq l0 x3_1 = some r) ∧ Aside0 (kq ≤ k) ∧ Drawn0 w w'))
  case atStart => exact ⟨(1), (by first | rfl | (simp; done) | (simp [*]; done)), H', ⟨Nat.le_refl _⟩, by repeat (first | exact Drawn0.refl _ | apply Drawn0.step)⟩
  case round =>
    (clear H'); (obtain ⟨x3_1, rfl, HA, HK1, ⟨m1, rfl⟩⟩ := hrel)
    cases gk with
    | zero => exact absurd HA.out (by simp [catchmentref05_Rises.l0])
    | succ k1 =>
      (have H := HA.out); (clear HA); (simp only [catchmentref05_Rises.l0] at H); (by_cases c2 : x3_1 < (l0.length : Int))
      · rw [if_pos c2] at H
        (have c2b0 : decide (x3_1 < (l0.length : Int)) = true := decide_eq_true c2); (clear c2); (obtain ⟨ji3, hji3⟩ : ∃ j_ : Int, (wrap64 (x3_1 - 1)) = j_ := ⟨_, rfl⟩); (replace H : (if 0 ≤ (ji3) then (if (ji3) < (l0.length : Int) then (if 0 ≤ x3_1 then (if ((Op.bytesLess (((rd_T85 l0 (ji3)).f0).toList) (((rd_T85 l0 x3_1).f0).toList)) = true) then (catchmentref05_Rises.l0 k1 l0 (wrap64 (x3_1 + 1))) else (some false)) else (none)) else (none)) else (none)) = some r := by first | (rw [hji3] at H; exact H) | (simp only [hji3] at H ⊢; exact H)); (have hji3w : (IntKind.i64.wrap (x3_1 - 1)) = ji3 := (i64_w _).trans hji3); (by_cases c4 : 0 ≤ (ji3))
        · rw [if_pos c4] at H
          (have c4b0 : decide (0 ≤ (ji3)) = true := decide_eq_true c4); (clear c4); (by_cases c5 : (ji3) < (l0.length : Int))
          · rw [if_pos c5] at H
            (have c5b0 : decide ((ji3) < (l0.length : Int)) = true := decide_eq_true c5); (clear c5); (by_cases c6 : 0 ≤ x3_1)
            · rw [if_pos c6] at H
              (have c6b0 : decide (0 ≤ x3_1) = true := decide_eq_true c6); (clear c6); (by_cases c7 : ((Op.bytesLess (((rd_T85 l0 (ji3)).f0).toList) (((rd_T85 l0 x3_1).f0).toList)) = true))
              · rw [if_pos c7] at H
                (have c7b0 : (Op.bytesLess (((rd_T85 l0 (ji3)).f0).toList) (((rd_T85 l0 x3_1).f0).toList)) = true := c7); (clear c7); (have H' := Aside0.mk H); (clear H); (have p124 : 0 ≤ ((ji3) : Int) := of_decide_eq_true (by first | (with_reducible assumption) | assumption)); (have q124 : (ji3) < (l0.length : Int) := of_decide_eq_true (by first | (with_reducible assumption) | assumption)); (obtain ⟨ad124, e124, hx124_0, hx124_1⟩ := at_T85 HR0.out (ji3) p124 q124); (cases e124); (replace p124 := eq_true p124); (replace q124 := eq_true q124); (have p125 : 0 ≤ (x3_1 : Int) := of_decide_eq_true (by first | (with_reducible assumption) | assumption)); (have q125 : x3_1 < (l0.length : Int) := of_decide_eq_true (by first | (with_reducible assumption) | assumption)); (obtain ⟨ad125, e125, hx125_0, hx125_1⟩ := at_T85 HR0.out x3_1 p125 q125); (obtain rfl : ad124 = ad125 := (by injection e125)); (replace p125 := eq_true p125); (replace q125 := eq_true q125); (go_wp2); (repeat (go_quiet (fail); try go_wp2)); (go_roundg k1)
                case measure => have := HK1.out; omega
                case rel => exact ⟨(wrap64 (x3_1 + 1)), (by first | rfl | (simp; done) | (simp [*]; done)), H', ⟨by have := HK1.out; omega⟩, by repeat (first | exact Drawn0.refl _ | apply Drawn0.step)⟩
              · rw [if_neg c7] at H
                (have c7b0 : (Op.bytesLess (((rd_T85 l0 (ji3)).f0).toList) (((rd_T85 l0 x3_1).f0).toList)) = false := by simpa using c7); (clear c7); (obtain rfl := Option.some.inj H); (have p124 : 0 ≤ ((ji3) : Int) := of_decide_eq_true (by first | (with_reducible assumption) | assumption)); (have q124 : (ji3) < (l0.length : Int) := of_decide_eq_true (by first | (with_reducible assumption) | assumption)); (obtain ⟨ad124, e124, hx124_0, hx124_1⟩ := at_T85 HR0.out (ji3) p124 q124); (cases e124); (replace p124 := eq_true p124); (replace q124 := eq_true q124); (have p125 : 0 ≤ (x3_1 : Int) := of_decide_eq_true (by first | (with_reducible assumption) | assumption)); (have q125 : x3_1 < (l0.length : Int) := of_decide_eq_true (by first | (with_reducible assumption) | assumption)); (obtain ⟨ad125, e125, hx125_0, hx125_1⟩ := at_T85 HR0.out x3_1 p125 q125); (obtain rfl : ad124 = ad125 := (by injection e125)); (replace p125 := eq_true p125); (replace q125 := eq_true q125); (go_wp2); (repeat (go_quiet (fail); try go_wp2)); (go_ret); (exact ⟨by first | rfl | (simp; done) | (simp only [← hji3] <;> (first | rfl | simp)) | (simp [*]; done), by repeat (first | exact Drawn0.refl _ | apply Drawn0.step)⟩)
            · rw [if_neg c6] at H
              exact absurd H (by simp)
          · rw [if_neg c5] at H
            exact absurd H (by simp)
        · rw [if_neg c4] at H
          exact absurd H (by simp)
      · rw [if_neg c2] at H
        (have c2b0 : decide (x3_1 < (l0.length : Int)) = false := decide_eq_false c2); (clear c2); (obtain rfl := Option.some.inj H); (go_wp2); (repeat (go_quiet (fail); try go_wp2)); (go_ret); (exact ⟨by first | rfl | (simp; done) | (simp [*]; done), by repeat (first | exact Drawn0.refl _ | apply Drawn0.step)⟩)
end Go.Proofs.Ytpfikmchimlneaa.M3
-- written by a program of this session (wip/myprint.py), over the kit's printer and the session's own contracts
namespace Go.Proofs.Ytpfikmchimlneaa.M3
open Go.RowKit Go.Proofs.YtpfikmchimlneaaW.PrintWords Go.Proofs.YtpfikmchimlneaaW.PrintLast Go.Proofs.YtpfikmchimlneaaW.PrintMore Go.Proofs.YtpfikmchimlneaaW.Mine
attribute [local go_sem] max2_int min2_int max_two min_two max_three min_three max_four min_four max2_str min2_str binOp_gtr_str binOp_leq_str binOp_geq_str   -- for this text's walks alone
set_option linter.unusedVariables false
set_option linter.unusedSimpArgs false
/-! ### api_Entry_95: function 95 -/
def api_Entry_95.ren : Go.Shelf.Ren := ⟨fun | 45 => 95 | n => n, fun | 22 => 59 | 23 => 74 | n => n, fun n => n⟩
theorem api_Entry_95.lay : SlLaysE.n45 Try.prog api_Entry_95.ren := { mixed := by kernel_rfl, f45 := ⟨Try.f95.name, by decide, Try.func95.trans (congrArg some (by kernel_rfl))⟩, t0 := Try.underlying0, a0 := Try.isAgg0, z0 := Try.sizeOf0, v0 := Try.zeroValue0, t3 := Try.underlying3, a3 := Try.isAgg3, z3 := Try.sizeOf3, v3 := Try.zeroValue3, t4 := Try.underlying4, a4 := Try.isAgg4, z4 := Try.sizeOf4, v4 := Try.zeroValue4, t22 := Try.underlying59, a22 := Try.isAgg59, z22 := Try.sizeOf59, v22 := Try.zeroValue59, a23 := Try.isAgg74, z23 := Try.sizeOf74 }
theorem api_Entry_95.ne : ∀ q, q ∈ 85 :: (k85).E → q ≠ 74 := by decide
theorem api_Entry_95.info : (Try.prog.info? 74).map (fun i => (i.zero, i.size, i.bytes)) = some (some (.slice none 0 0), 1, 24) := by kernel_rfl
/-- elements i to j are taken out of a row of rows of the call's own -/
theorem api_Entry_95.del {w : World} {base : Nat} {v : Value} {xs : List (List S85)} (h : Go.Proofs.YtpfikmchimlneaaW.Nest.NR k85 85 74 w base v xs) (i j : Nat) (hij : i < j) (hj : j ≤ xs.length) :
    Calls Try.prog 95 #[v, .int .i64 (i : Int), .int .i64 (j : Int)] w fun e w' => ∃ v', e = .returned v' ∧ Go.Proofs.YtpfikmchimlneaaW.Nest.NR k85 85 74 w' base v' (xs.take i ++ xs.drop j) ∧ Below base w w' := by
  obtain ⟨hs, hR, hI⟩ := h
  have hl := hI.1
  obtain ⟨g, c, rfl, hbg, _⟩ := Kd.R_form hR (by omega)
  obtain ⟨hn, hnc, hcm, hH, hb, cur, hheap, hsize, htake⟩ := Go.Proofs.YtpfikmchimlneaaW.Nest.R_holds hR
  obtain ⟨i0, hi0, _, hz1, _⟩ := info_parts api_Entry_95.info
  have hcon := AnyE.slices_Delete api_Entry_95.lay Go.Proofs.YtpfikmchimlneaaW.Nest.hv (fun _ => rfl) ((none, 0, 0) : Go.Proofs.YtpfikmchimlneaaW.Nest.Hd) Try.zeroValue74 i0 hi0 hz1 g 0 c i j hs.toArray w hH (by simpa using hnc) (by unfold maxLen at hcm; omega) (by omega) (by simp; omega)
  simp only [List.size_toArray] at hcon
  refine (show Calls Try.prog 95 _ w _ from hcon).mono ?_
  rintro e w' ⟨rfl, q, rfl⟩
  have hys : (hs.take i ++ hs.drop j ++ List.replicate (j - i) ((none, 0, 0) : Go.Proofs.YtpfikmchimlneaaW.Nest.Hd)).length = hs.length := by
    simp only [List.length_append, List.length_take, List.length_drop, List.length_replicate]
    omega
  obtain ⟨h1, h2⟩ := Go.Proofs.YtpfikmchimlneaaW.Nest.R_put hR q _ hys (hs.length - (j - i)) (by rw [hys]; omega)
  have ht : (hs.take i ++ hs.drop j ++ List.replicate (j - i) ((none, 0, 0) : Go.Proofs.YtpfikmchimlneaaW.Nest.Hd)).take (hs.length - (j - i)) = hs.take i ++ hs.drop j := by
    rw [List.take_append_of_le_length (by simp only [List.length_append, List.length_take, List.length_drop]; omega), List.take_of_length_le (by simp only [List.length_append, List.length_take, List.length_drop]; omega)]
  rw [ht] at h1
  exact ⟨_, rfl, ⟨_, h1, ((hI.take i).append (hI.drop j)).grown api_Entry_95.ne hheap h2⟩, (Below.refl base w).grown h2 (by omega) (fun k hk => by cases hk; exact hb)⟩
end Go.Proofs.Ytpfikmchimlneaa.M3
-- written by a program of this session (wip/myprint.py), over the kit's printer and the session's own contracts
namespace Go.Proofs.Ytpfikmchimlneaa.M3
open Go.RowKit Go.Proofs.YtpfikmchimlneaaW.PrintWords Go.Proofs.YtpfikmchimlneaaW.PrintLast Go.Proofs.YtpfikmchimlneaaW.PrintMore Go.Proofs.YtpfikmchimlneaaW.Mine
attribute [local go_sem] max2_int min2_int max_two min_two max_three min_three max_four min_four max2_str min2_str binOp_gtr_str binOp_leq_str binOp_geq_str   -- for this text's walks alone
set_option linter.unusedVariables false
set_option linter.unusedSimpArgs false
/-! ### api_Entry_86: function 86 -/
open Go.Proofs.YtpfikmchimlneaaW.Sl
theorem api_Entry_86.info : (Try.prog.info? 85).map (fun i => (i.zero, i.size, i.bytes)) = some (some (.agg #[(.string ⟨#[]⟩), (.string ⟨#[]⟩)]), 2, 32) := by kernel_rfl
theorem api_Entry_86.flat : Flat k85 := by first | exact flat_string | exact flat_int _ | exact flat_bool | exact flat_iso (by repeat (first | exact flat_string | exact flat_int _ | exact flat_bool | refine flat_pair ?_ ?_)) _
theorem api_Entry_86.isNil (A : Option Addr) (n c : Nat) (w : World) : Sem.run Try.prog (binOp .eql 74 (.slice A n c) (.slice none 0 0)) w = .ok (.bool A.isNone) w := by cases A <;> kernel_rfl
attribute [local go_sem] api_Entry_86.isNil
def api_Entry_86.f (l0 : List S85) : Option (List S85) := if l0.length < 1000000 then some l0 else none
set_option maxHeartbeats 4000000 in
set_option maxRecDepth 100000 in
theorem api_Entry_86.calls (A0 : Option Addr) (c0 : Nat) (l0 : List S85) (r : List S85) (w : World) (hr0 : Kd.C k85 w A0 l0.length l0) (hc0 : l0.length ≤ c0) (h : api_Entry_86.f l0 = some r) :
    Calls Try.prog 86 #[.slice A0 l0.length c0] w fun e w' => ∃ v0_ : Value, e = .returned (v0_) ∧ Kd.R k85 85 w' w.heap.size (fun _ => True) v0_ r ∧ Below w.heap.size w w' := by
  unfold api_Entry_86.f at h
  by_cases hl : l0.length < 1000000
  · rw [if_pos hl] at h
    obtain rfl := Option.some.inj h
    clear h
    cases A0 with
    | none =>
      have h0 : l0 = [] := by
        rcases Nat.eq_zero_or_pos l0.length with h0 | h0
        · exact List.eq_nil_of_length_eq_zero h0
        · obtain ⟨ad, h, _⟩ := hr0.2.2 h0
          cases h
      subst h0
      clear hr0
      go_enter Try.func86, Try.ntmps86
      go_wp2
      go_ret
      exact ⟨_, rfl, Kd.R_nil _ _ _ _ _, Below.refl _ _⟩
    | some ad =>
      rcases Nat.eq_zero_or_pos l0.length with h0 | h0
      · have h1 : l0 = [] := List.eq_nil_of_length_eq_zero h0
        subst h1
        clear hr0
        go_enter Try.func86, Try.ntmps86
        go_wp2
        go_ret
        exact ⟨_, rfl, grown_nil k85 85 _ 0 (by unfold maxLen; omega) (by simp), (Below.refl _ w).alloc (Nat.le_refl _) _⟩
      · have hrun := R_append_run (P := Try.prog) k85 api_Entry_86.flat (by decide) (W := w.alloc (.cells #[] 85)) 74 74 85 _ 32 Try.underlying74 api_Entry_86.info rfl (by decide) (xs := []) (A := some ⟨w.heap.size, 0, none⟩) (n := 0) (cap := 0) ⟨rfl, by omega, fun h => absurd h (by omega)⟩ (fun h => by cases h) (m := l0.length) (c := c0) (Kd.C_alloc hr0 _) (by omega) (by omega)
        have HRUN := Aside0.mk hrun
        clear hrun hr0
        go_enter Try.func86, Try.ntmps86
        go_wp2_with (at_builtin; refine wpList_append_ex _ rfl _ _ _ _ rfl _ _ rfl rfl HRUN.out ?_; rintro v' w' ⟨hR, hB⟩)
        go_ret
        exact ⟨_, rfl, Kd.R_lower hR (by simp), below_step ((Below.refl _ w).alloc (Nat.le_refl _) _) hB⟩
  · rw [if_neg hl] at h
    cases h
end Go.Proofs.Ytpfikmchimlneaa.M3
-- written by a program of this session (wip/myprint.py), over the kit's printer and the session's own contracts
namespace Go.Proofs.Ytpfikmchimlneaa.M3
open Go.RowKit Go.Proofs.YtpfikmchimlneaaW.PrintWords Go.Proofs.YtpfikmchimlneaaW.PrintLast Go.Proofs.YtpfikmchimlneaaW.PrintMore Go.Proofs.YtpfikmchimlneaaW.Mine
attribute [local go_sem] max2_int min2_int max_two min_two max_three min_three max_four min_four max2_str min2_str binOp_gtr_str binOp_leq_str binOp_geq_str   -- for this text's walks alone
set_option linter.unusedVariables false
set_option linter.unusedSimpArgs false
/-! ### leaf_copied: function 70 -/
-- over api_Entry_86, api_Entry_95
open Go.Proofs.YtpfikmchimlneaaW.Nest Go.Proofs.YtpfikmchimlneaaW.Sl
def leaf_copied.fits (l : List (List S85)) : Bool := decide (l.length < 1000000) && l.all fun x => decide (x.length < 1000000)
def leaf_copied.f (l0 : List (List S85)) : Option (List (List S85)) := if leaf_copied.fits l0 = true then some l0 else none
theorem leaf_copied.mk (n : Nat) (hn : n < 1000000) : ∀ W : World, (Instr.makeSlice 59 (.int .i64 (n : Int)) (.int .i64 (n : Int))).run Try.prog W = .ok (.slice (some ⟨W.heap.size, 0, none⟩) n n) (W.alloc (.cells (madeCells #[.slice none 0 0] n) 74)) := by
  intro W
  obtain ⟨i0, hi, hz0, hz1, hz2⟩ := info_parts api_Entry_95.info
  have hr := run_make (P := Try.prog) W 59 74 i0 (.slice none 0 0) Try.underlying59 hi hz0 .i64 .i64 (n : Int) (n : Int) (by omega) (by omega) (by rw [hz2]; omega) (by omega)
  rw [hz1] at hr
  simpa [Value.cells] using hr
theorem leaf_copied.made (W : World) (n : Nat) (hn : n < 1000000) : NR k85 85 74 (W.alloc (.cells (madeCells #[.slice none 0 0] n) 74)) W.heap.size (.slice (some ⟨W.heap.size, 0, none⟩) n n) (List.replicate n []) := by
  have hz : (madeCells #[.slice none 0 0] n).toList = (List.replicate n ((none, 0, 0) : Hd)).map hv := by
    refine List.ext_getElem? fun j => ?_
    rw [List.getElem?_map, List.getElem?_replicate, Array.getElem?_toList]
    by_cases hj : j < n
    · rw [if_pos hj]
      simp [madeCells, hj, Nat.mod_one]
      rfl
    · rw [if_neg hj]
      simp [madeCells, hj]
  have hs : (madeCells #[.slice none 0 0] n).size = n := by
    have := congrArg List.length hz
    simpa using this
  have hrw : Rw 74 (W.alloc (.cells (madeCells #[.slice none 0 0] n) 74)) W.heap.size W.heap.size n ((List.replicate n ((none, 0, 0) : Hd)).map hv) :=
    ⟨_, heap_alloc_new W _, hs, by unfold maxLen; omega, Nat.le_refl _, by rw [List.take_of_length_le (by rw [hz]; exact Nat.le_refl _), hz]⟩
  have hr := hrw.to
  rw [List.length_replicate] at hr
  refine ⟨_, hr, by simp, fun i h x h1 h2 => ?_⟩
  rw [List.getElem?_replicate] at h1 h2
  split at h1
  · rename_i hi
    rw [if_pos hi] at h2
    obtain rfl := Option.some.inj h1
    obtain rfl := Option.some.inj h2
    exact Kd.R_nil _ _ _ _ _
  · cases h1
theorem leaf_copied.step {l : List (List S85)} {n k : Nat} (hn : l.length = n) (hk : k < n) : (l.take k ++ List.replicate (n - k) []).set k (l.getD k []) = l.take (k + 1) ++ List.replicate (n - (k + 1)) [] := by
  have h1 : (l.take k).length = k := by rw [List.length_take]; omega
  obtain ⟨m, hm⟩ : ∃ m, n - k = m + 1 := ⟨n - k - 1, by omega⟩
  rw [List.set_append, if_neg (by omega), h1, Nat.sub_self, hm, List.replicate_succ, List.set_cons_zero, List.take_add_one, List.getElem?_eq_getElem (by omega), show n - (k + 1) = m by omega, List.append_assoc, List.getD_eq_getElem?_getD, List.getElem?_eq_getElem (by omega)]
  rfl
set_option maxHeartbeats 8000000 in
set_option maxRecDepth 100000 in
theorem leaf_copied.calls (A0 : Option Addr) (c0 : Nat) (l0 : List (List S85)) (r : List (List S85)) (w : World) (hr0 : Kd.C (Kd.slice 85 k85) w A0 l0.length l0) (hc0 : l0.length ≤ c0) (h : leaf_copied.f l0 = some r) :
    Calls Try.prog 70 #[.slice A0 l0.length c0] w fun e w' => ∃ v0_ : Value, e = .returned (v0_) ∧ Kd.R (Kd.slice 85 k85) 74 w' w.heap.size (fun _ => True) v0_ r ∧ Below w.heap.size w w' := by
  unfold leaf_copied.f leaf_copied.fits at h
  by_cases hf : (decide (l0.length < 1000000) && l0.all fun x => decide (x.length < 1000000)) = true
  · rw [if_pos hf] at h
    obtain rfl := Option.some.inj h
    rw [Bool.and_eq_true] at hf
    have hl : l0.length < 1000000 := of_decide_eq_true hf.1
    have he : ∀ x ∈ l0, x.length < 1000000 := fun x hx => of_decide_eq_true (List.all_eq_true.1 hf.2 x hx)
    have hmk := leaf_copied.mk l0.length hl
    have HM := Aside0.mk (leaf_copied.made w l0.length hl)
    have HR0 := Aside0.mk hr0
    have HE := Aside0.mk he
    have HL := Aside0.mk hl
    have HB0 := Aside0.mk (show Below w.heap.size w (w.alloc (.cells (madeCells #[.slice none 0 0] l0.length) 74)) from (Below.refl _ w).alloc (Nat.le_refl _) _)
    obtain ⟨n, hn⟩ : ∃ n, l0.length = n := ⟨_, rfl⟩
    have HN := Aside0.mk hn
    clear h hf he hr0
    rw [hn] at hmk HM HL HR0 HB0 ⊢
    have hn2 : n ≤ 1000000 := by have := HL.out; omega
    clear hl hn hc0
    go_enter Try.func70, Try.ntmps70
    go_wp2
    go_loopw [11] (fun i wr => ∃ k : Nat, i = .int .i64 (k : Int) ∧ k ≤ n ∧ Aside0 (NR k85 85 74 wr w.heap.size (.slice (some ⟨w.heap.size, 0, none⟩) n n) (l0.take k ++ List.replicate (n - k) [])) ∧ Aside0 (Below w.heap.size w wr)) (fun i _ => n - (intOf i).toNat)
    case atStart => exact ⟨0, rfl, Nat.zero_le _, ⟨by simpa using HM.out⟩, HB0⟩
    case round =>
      obtain ⟨k, rfl, hk, HNR, HB⟩ := hrel
      by_cases hlt : k < n
      · obtain ⟨ad, A', c', hA, hcell, hlc, hC⟩ := C_row (Kd.C_below HR0.out HB.out) k hlt
        subst hA
        have hmem : (l0.getD k []).length < 1000000 := by
          rw [List.getD_eq_getElem?_getD, List.getElem?_eq_getElem (by rw [HN.out]; exact hlt)]
          exact HE.out _ (List.getElem_mem _)
        have hcl : api_Entry_86.f (l0.getD k []) = some (l0.getD k []) := by unfold api_Entry_86.f; rw [if_pos hmem]
        have hst := leaf_copied.step (l := l0) (n := n) (k := k) HN.out hlt
        have HST := Aside0.mk hst
        generalize l0.getD k [] = y at hcell hlc hC hmem hcl hst HST
        have HCL := Aside0.mk hcl
        have HC := Aside0.mk hC
        have HLC := Aside0.mk hlc
        have hll : (l0.take k ++ List.replicate (n - k) []).length = n := by rw [List.length_append, List.length_take, List.length_replicate, HN.out]; omega
        have HLL := Aside0.mk hll
        clear hC hcl hst hmem hll hlc
        go_wp2_with (go_at_call 86; refine (api_Entry_86.calls A' c' y y _ HC.out HLC.out HCL.out).mono ?_; rintro e w1 ⟨v1, rfl, hR1, hB1⟩; obtain ⟨Aa, ca, rfl⟩ := Kd.R_slice hR1; have hN1 := HNR.out.below hB1; obtain ⟨-, hg1, hg2, ⟨Ax, cx, hx, hrx⟩, hfx⟩ := NR.elem hN1 k (by rw [HLL.out]; exact hlt); clear hrx; generalize ((l0.take k ++ List.replicate (n - k) []).getD k []).length = lx at hx; have HS := Aside0.mk (hN1.set api_Entry_95.ne k ((Aa, y.length, ca) : Hd) (y := y) (Kd.R_lower hR1 HB.out.size)); have HB1 := Aside0.mk ((HB.out.trans (hB1.mono HB.out.size)).grown (set_grown w.heap.size k (.slice Aa y.length ca)) (Nat.le_trans HB.out.size hB1.size) (fun q hq => by cases hq; exact Nat.le_refl _)); clear hN1 hR1 hB1 hg1)
        clear hx hfx hcell hg2 hmk
        go_roundw
        case rel => exact ⟨k + 1, by go_num, by omega, ⟨by rw [← HST.out]; exact HS.out⟩, HB1⟩
        case measure => simp [intOf]; omega
      · obtain rfl : k = n := by omega
        go_wp2
        go_ret
        refine ⟨_, rfl, ?_, HB.out⟩
        have h1 := HNR.out.to api_Entry_95.ne
        rw [Nat.sub_self, List.replicate_zero, List.append_nil, List.take_of_length_le (by rw [HN.out]; exact Nat.le_refl _)] at h1
        exact h1
  · rw [if_neg hf] at h
    cases h
end Go.Proofs.Ytpfikmchimlneaa.M3
-- written by a program of this session (wip/myprint.py), over the kit's printer and the session's own contracts
namespace Go.Proofs.Ytpfikmchimlneaa.M3
open Go.RowKit Go.Proofs.YtpfikmchimlneaaW.PrintWords Go.Proofs.YtpfikmchimlneaaW.PrintLast Go.Proofs.YtpfikmchimlneaaW.PrintMore Go.Proofs.YtpfikmchimlneaaW.Mine
attribute [local go_sem] max2_int min2_int max_two min_two max_three min_three max_four min_four max2_str min2_str binOp_gtr_str binOp_leq_str binOp_geq_str   -- for this text's walks alone
set_option linter.unusedVariables false
set_option linter.unusedSimpArgs false
/-! ### msg_IsPoint: function 71 -/
def msg_IsPoint.f (a0_0 : Int) (a0_1 : Int) (a0_2 : ByteArray) (a0_3 : ByteArray) (a0_4 : ByteArray) (a0_5 : Int) : Option (Bool) := if a0_0 = 1 then (some true) else (if a0_0 = 2 then (some true) else (some (a0_0 == 3)))
set_option maxHeartbeats 8000000 in
set_option maxRecDepth 100000 in
theorem msg_IsPoint.calls (a0_0 : Int) (a0_1 : Int) (a0_2 : ByteArray) (a0_3 : ByteArray) (a0_4 : ByteArray) (a0_5 : Int) (r : Bool) (w : World) (h : msg_IsPoint.f a0_0 a0_1 a0_2 a0_3 a0_4 a0_5 = some r) :
    Calls Try.prog 71 #[.agg #[.int .u8 a0_0, .int .i64 a0_1, .string a0_2, .string a0_3, .string a0_4, .int .u64 a0_5]] w fun e w' => e = .returned (.bool r) ∧ Below w.heap.size w w' := by
  (have hu69 := Try.underlying69); (have HB := Aside0.mk (Below.refl w.heap.size w)); (have H : (if a0_0 = 1 then (some true) else (if a0_0 = 2 then (some true) else (some (a0_0 == 3)))) = some r := h); (clear h); (by_cases c2 : a0_0 = 1)
  · rw [if_pos c2] at H
    (have c2b0 : (a0_0 == 1) = true := beq_iff_eq.mpr c2); (have c2b1 : (a0_0 != 1) = false := bne_eq_false_iff_eq.mpr c2); (clear c2); (obtain rfl := Option.some.inj H); (go_enter Try.func71, Try.ntmps71)
    go_wp2_with (first | ((with_reducible refine gate_dst (N := 1) rfl ?_); refine box_event ?hg (N := 1) ?hd (cs := #[.int .u8 a0_0, .int .i64 a0_1, .string a0_2, .string a0_3, .string a0_4, .int .u64 a0_5]) (t := 69) ?hr ?_; (case hd => rfl); (case hg => rfl); (case hr => first | (go_simp; done) | (go_simp; rfl)); intro gb131 hg w3 hbox hb; have n0_ := Aside0.mk (below_step (by repeat (first | (with_reducible first | exact HB.out | apply y1_ | apply y2_ | apply y3_) | exact HB.out)) hb); have n1_ := Aside0.mk (hbox); have n2_ := Aside0.mk ((by rw [hg]; exact (below_size (by repeat (first | (with_reducible first | exact HB.out | apply y1_ | apply y2_ | apply y3_) | exact HB.out))) : w.heap.size ≤ gb131)); have n3_ := Aside0.mk ((by rw [hg]; exact (below_size (by repeat (first | (with_reducible first | exact HB.out | apply y1_ | apply y2_ | apply y3_) | exact HB.out))) : w.heap.size ≤ gb131)); clear HB; have HB := n0_; have BK131 := n1_; have GW131 := n2_; have GE131 := n3_; clear n0_ n1_ n2_ n3_; clear hb hbox hg; have hcz4_0 : w3.cell? ⟨gb131, 0, none⟩ = some (.int .u8 a0_0) := (blk_cell BK131.out 0).trans rfl; have hcz4_1 : w3.cell? ⟨gb131, 1, none⟩ = some (.int .i64 a0_1) := (blk_cell BK131.out 1).trans rfl; have hcz4_2 : w3.cell? ⟨gb131, 2, none⟩ = some (.string a0_2) := (blk_cell BK131.out 2).trans rfl; have hcz4_3 : w3.cell? ⟨gb131, 3, none⟩ = some (.string a0_3) := (blk_cell BK131.out 3).trans rfl; have hcz4_4 : w3.cell? ⟨gb131, 4, none⟩ = some (.string a0_4) := (blk_cell BK131.out 4).trans rfl; have hcz4_5 : w3.cell? ⟨gb131, 5, none⟩ = some (.int .u64 a0_5) := (blk_cell BK131.out 5).trans rfl; have hfz4_0 := blk_frozen BK131.out 0; have hfz4_1 := blk_frozen BK131.out 1; have hfz4_2 := blk_frozen BK131.out 2; have hfz4_3 := blk_frozen BK131.out 3; have hfz4_4 := blk_frozen BK131.out 4; have hfz4_5 := blk_frozen BK131.out 5))
    (go_ret); (exact ⟨by first | rfl | (simp [errW_none, errW_some] <;> rfl) | (simp [*, errW_none, errW_some] <;> rfl), by repeat (first | (with_reducible first | exact HB.out | apply y1_ | apply y2_ | apply y3_ | refine y4_ ?_ GE131.out) | exact HB.out)⟩)
  · rw [if_neg c2] at H
    (have c2b0 : (a0_0 == 1) = false := beq_eq_false_iff_ne.mpr c2); (have c2b1 : (a0_0 != 1) = true := bne_iff_ne.mpr c2); (by_cases c5 : a0_0 = 2)
    · rw [if_pos c5] at H
      (have c5b0 : (a0_0 == 2) = true := beq_iff_eq.mpr c5); (have c5b1 : (a0_0 != 2) = false := bne_eq_false_iff_eq.mpr c5); (clear c5); (obtain rfl := Option.some.inj H); (go_enter Try.func71, Try.ntmps71)
      go_wp2_with (first | ((with_reducible refine gate_dst (N := 1) rfl ?_); refine box_event ?hg (N := 1) ?hd (cs := #[.int .u8 a0_0, .int .i64 a0_1, .string a0_2, .string a0_3, .string a0_4, .int .u64 a0_5]) (t := 69) ?hr ?_; (case hd => rfl); (case hg => rfl); (case hr => first | (go_simp; done) | (go_simp; rfl)); intro gb131 hg w6 hbox hb; have n0_ := Aside0.mk (below_step (by repeat (first | (with_reducible first | exact HB.out | apply y1_ | apply y2_ | apply y3_) | exact HB.out)) hb); have n1_ := Aside0.mk (hbox); have n2_ := Aside0.mk ((by rw [hg]; exact (below_size (by repeat (first | (with_reducible first | exact HB.out | apply y1_ | apply y2_ | apply y3_) | exact HB.out))) : w.heap.size ≤ gb131)); have n3_ := Aside0.mk ((by rw [hg]; exact (below_size (by repeat (first | (with_reducible first | exact HB.out | apply y1_ | apply y2_ | apply y3_) | exact HB.out))) : w.heap.size ≤ gb131)); clear HB; have HB := n0_; have BK131 := n1_; have GW131 := n2_; have GE131 := n3_; clear n0_ n1_ n2_ n3_; clear hb hbox hg; have hcz7_0 : w6.cell? ⟨gb131, 0, none⟩ = some (.int .u8 a0_0) := (blk_cell BK131.out 0).trans rfl; have hcz7_1 : w6.cell? ⟨gb131, 1, none⟩ = some (.int .i64 a0_1) := (blk_cell BK131.out 1).trans rfl; have hcz7_2 : w6.cell? ⟨gb131, 2, none⟩ = some (.string a0_2) := (blk_cell BK131.out 2).trans rfl; have hcz7_3 : w6.cell? ⟨gb131, 3, none⟩ = some (.string a0_3) := (blk_cell BK131.out 3).trans rfl; have hcz7_4 : w6.cell? ⟨gb131, 4, none⟩ = some (.string a0_4) := (blk_cell BK131.out 4).trans rfl; have hcz7_5 : w6.cell? ⟨gb131, 5, none⟩ = some (.int .u64 a0_5) := (blk_cell BK131.out 5).trans rfl; have hfz7_0 := blk_frozen BK131.out 0; have hfz7_1 := blk_frozen BK131.out 1; have hfz7_2 := blk_frozen BK131.out 2; have hfz7_3 := blk_frozen BK131.out 3; have hfz7_4 := blk_frozen BK131.out 4; have hfz7_5 := blk_frozen BK131.out 5))
      (go_ret); (exact ⟨by first | rfl | (simp [errW_none, errW_some] <;> rfl) | (simp [*, errW_none, errW_some] <;> rfl), by repeat (first | (with_reducible first | exact HB.out | apply y1_ | apply y2_ | apply y3_ | refine y4_ ?_ GE131.out) | exact HB.out)⟩)
    · rw [if_neg c5] at H
      (have c5b0 : (a0_0 == 2) = false := beq_eq_false_iff_ne.mpr c5); (have c5b1 : (a0_0 != 2) = true := bne_iff_ne.mpr c5); (obtain rfl := Option.some.inj H); (go_enter Try.func71, Try.ntmps71)
      go_wp2_with (first | ((with_reducible refine gate_dst (N := 1) rfl ?_); refine box_event ?hg (N := 1) ?hd (cs := #[.int .u8 a0_0, .int .i64 a0_1, .string a0_2, .string a0_3, .string a0_4, .int .u64 a0_5]) (t := 69) ?hr ?_; (case hd => rfl); (case hg => rfl); (case hr => first | (go_simp; done) | (go_simp; rfl)); intro gb131 hg w8 hbox hb; have n0_ := Aside0.mk (below_step (by repeat (first | (with_reducible first | exact HB.out | apply y1_ | apply y2_ | apply y3_) | exact HB.out)) hb); have n1_ := Aside0.mk (hbox); have n2_ := Aside0.mk ((by rw [hg]; exact (below_size (by repeat (first | (with_reducible first | exact HB.out | apply y1_ | apply y2_ | apply y3_) | exact HB.out))) : w.heap.size ≤ gb131)); have n3_ := Aside0.mk ((by rw [hg]; exact (below_size (by repeat (first | (with_reducible first | exact HB.out | apply y1_ | apply y2_ | apply y3_) | exact HB.out))) : w.heap.size ≤ gb131)); clear HB; have HB := n0_; have BK131 := n1_; have GW131 := n2_; have GE131 := n3_; clear n0_ n1_ n2_ n3_; clear hb hbox hg; have hcz9_0 : w8.cell? ⟨gb131, 0, none⟩ = some (.int .u8 a0_0) := (blk_cell BK131.out 0).trans rfl; have hcz9_1 : w8.cell? ⟨gb131, 1, none⟩ = some (.int .i64 a0_1) := (blk_cell BK131.out 1).trans rfl; have hcz9_2 : w8.cell? ⟨gb131, 2, none⟩ = some (.string a0_2) := (blk_cell BK131.out 2).trans rfl; have hcz9_3 : w8.cell? ⟨gb131, 3, none⟩ = some (.string a0_3) := (blk_cell BK131.out 3).trans rfl; have hcz9_4 : w8.cell? ⟨gb131, 4, none⟩ = some (.string a0_4) := (blk_cell BK131.out 4).trans rfl; have hcz9_5 : w8.cell? ⟨gb131, 5, none⟩ = some (.int .u64 a0_5) := (blk_cell BK131.out 5).trans rfl; have hfz9_0 := blk_frozen BK131.out 0; have hfz9_1 := blk_frozen BK131.out 1; have hfz9_2 := blk_frozen BK131.out 2; have hfz9_3 := blk_frozen BK131.out 3; have hfz9_4 := blk_frozen BK131.out 4; have hfz9_5 := blk_frozen BK131.out 5))
      (go_ret); (exact ⟨by first | rfl | (simp [errW_none, errW_some] <;> rfl) | (simp [*, errW_none, errW_some] <;> rfl), by repeat (first | (with_reducible first | exact HB.out | apply y1_ | apply y2_ | apply y3_ | refine y4_ ?_ GE131.out) | exact HB.out)⟩)
end Go.Proofs.Ytpfikmchimlneaa.M3
-- written by a program of this session (wip/myprint.py), over the kit's printer and the session's own contracts
namespace Go.Proofs.Ytpfikmchimlneaa.M3
open Go.RowKit Go.Proofs.YtpfikmchimlneaaW.PrintWords Go.Proofs.YtpfikmchimlneaaW.PrintLast Go.Proofs.YtpfikmchimlneaaW.PrintMore Go.Proofs.YtpfikmchimlneaaW.Mine
attribute [local go_sem] max2_int min2_int max_two min_two max_three min_three max_four min_four max2_str min2_str binOp_gtr_str binOp_leq_str binOp_geq_str   -- for this text's walks alone
set_option linter.unusedVariables false
set_option linter.unusedSimpArgs false
/-! ### bytealg_CompareString: function 127 -/
set_option maxHeartbeats 1000000 in
set_option maxRecDepth 100000 in
theorem bytealg_CompareString_calls (a b : ByteArray) (w : World) :
    Calls Try.prog 127 #[.string a, .string b] w fun e w' => e = .returned (.int .i64 (Lib.compareBytes a.data.toList b.data.toList)) ∧ w' = w := by
  go_enter Try.func127, Try.ntmps127
  go_wp2
  rw [run_callFunc_extern Try.func137 (by kernel_rfl) (by kernel_rfl) (by kernel_rfl) (e := Extern.BytealgCompare.compare) (by kernel_rfl), Lib.run_compareString]
  simp only [Result.andThen]
  rw [Oper.upon_value]
  go_wp2
  go_ret
  exact ⟨rfl, rfl⟩
end Go.Proofs.Ytpfikmchimlneaa.M3
-- written by a program of this session (wip/myprint.py), over the kit's printer and the session's own contracts
namespace Go.Proofs.Ytpfikmchimlneaa.M3
open Go.RowKit Go.Proofs.YtpfikmchimlneaaW.PrintWords Go.Proofs.YtpfikmchimlneaaW.PrintLast Go.Proofs.YtpfikmchimlneaaW.PrintMore Go.Proofs.YtpfikmchimlneaaW.Mine
attribute [local go_sem] max2_int min2_int max_two min_two max_three min_three max_four min_four max2_str min2_str binOp_gtr_str binOp_leq_str binOp_geq_str   -- for this text's walks alone
set_option linter.unusedVariables false
set_option linter.unusedSimpArgs false
/-! ### strings_Compare: function 111 -/
def strings_Compare.f (a0 : ByteArray) (a1 : ByteArray) : Option (Int) := some (Lib.compareBytes a0.data.toList a1.data.toList)
set_option maxHeartbeats 1000000 in
theorem strings_Compare.calls (a0 : ByteArray) (a1 : ByteArray) (r : Int) (w : World) (h : strings_Compare.f a0 a1 = some r) :
    Calls Try.prog 111 #[.string a0, .string a1] w fun e w' => e = .returned (.int .i64 r) ∧ Drawn0 w w' := by
  unfold strings_Compare.f at h
  obtain rfl := Option.some.inj h
  clear h
  go_enter Try.func111, Try.ntmps111
  go_wp2_with (go_at_call 127; refine (bytealg_CompareString_calls _ _ _).mono ?_; rintro e w' ⟨rfl, rfl⟩)
  go_ret
  exact ⟨rfl, Drawn0.refl _⟩
end Go.Proofs.Ytpfikmchimlneaa.M3
-- written by a program of this session (wip/myprint.py), over the kit's printer and the session's own contracts
namespace Go.Proofs.Ytpfikmchimlneaa.M3
open Go.RowKit Go.Proofs.YtpfikmchimlneaaW.PrintWords Go.Proofs.YtpfikmchimlneaaW.PrintLast Go.Proofs.YtpfikmchimlneaaW.PrintMore Go.Proofs.YtpfikmchimlneaaW.Mine
attribute [local go_sem] max2_int min2_int max_two min_two max_three min_three max_four min_four max2_str min2_str binOp_gtr_str binOp_leq_str binOp_geq_str   -- for this text's walks alone
set_option linter.unusedVariables false
set_option linter.unusedSimpArgs false
/-! ### block_Place_1: function 113 -/
def block_Place_1.f (a0_0 : ByteArray) (a0_1 : ByteArray) (a1 : ByteArray) : Option (Int) := (strings_Compare.f a0_0 a1).bind fun t133 => (some t133)
set_option maxHeartbeats 8000000 in
set_option maxRecDepth 100000 in
theorem block_Place_1.calls (a0_0 : ByteArray) (a0_1 : ByteArray) (a1 : ByteArray) (r : Int) (w : World) (h : block_Place_1.f a0_0 a0_1 a1 = some r) :
    Calls Try.prog 113 #[.agg #[.string a0_0, .string a0_1], .string a1] w fun e w' => e = .returned (.int .i64 r) ∧ Below w.heap.size w w' := by
  (have hu85 := Try.underlying85); (have HB := Aside0.mk (Below.refl w.heap.size w)); (have H : ((strings_Compare.f a0_0 a1).bind fun t133 => (some t133)) = some r := h); (clear h); (replace H := Option.bind_eq_some_iff.mp H); (obtain ⟨t133, A30, H⟩ := H); (replace H : (some t133) = some r := H); (have A3 := Aside0.mk A30); (clear A30); (obtain rfl := Option.some.inj H); (go_enter Try.func113, Try.ntmps113)
  go_wp2_with (first | ((with_reducible refine gate_dst (N := 2) rfl ?_); refine box_event ?hg (N := 2) ?hd (cs := #[.string a0_0, .string a0_1]) (t := 85) ?hr ?_; (case hd => rfl); (case hg => rfl); (case hr => first | (go_simp; done) | (go_simp; rfl)); intro gb132 hg w4 hbox hb; have n0_ := Aside0.mk (below_step (by repeat (first | (with_reducible first | exact HB.out | apply y1_ | apply y2_ | apply y3_) | exact HB.out)) hb); have n1_ := Aside0.mk (hbox); have n2_ := Aside0.mk ((by rw [hg]; exact (below_size (by repeat (first | (with_reducible first | exact HB.out | apply y1_ | apply y2_ | apply y3_) | exact HB.out))) : w.heap.size ≤ gb132)); have n3_ := Aside0.mk ((by rw [hg]; exact (below_size (by repeat (first | (with_reducible first | exact HB.out | apply y1_ | apply y2_ | apply y3_) | exact HB.out))) : w.heap.size ≤ gb132)); clear HB; have HB := n0_; have BK132 := n1_; have GW132 := n2_; have GE132 := n3_; clear n0_ n1_ n2_ n3_; clear hb hbox hg; have hcz5_0 : w4.cell? ⟨gb132, 0, none⟩ = some (.string a0_0) := (blk_cell BK132.out 0).trans rfl; have hcz5_1 : w4.cell? ⟨gb132, 1, none⟩ = some (.string a0_1) := (blk_cell BK132.out 1).trans rfl; have hfz5_0 := blk_frozen BK132.out 0; have hfz5_1 := blk_frozen BK132.out 1) | ((with_reducible refine gate_callee (f := 111) rfl ?_); refine goesL_ (some 8) rfl rfl Try.func111 (by kernel_rfl) rfl #[.string a0_0, .string a1] rfl (by (try simp only [List.map_toArray, List.map_cons, List.map_nil]); first | done | rfl | (simp only [List.length_drop, List.length_take]; rfl)) ?_; (with_reducible refine (strings_Compare.calls a0_0 a1 t133 _ A3.out).mono ?_); rintro e w' ⟨rfl, ⟨nd, rfl⟩⟩; refine ⟨_, rfl, ?_⟩))
  (go_ret); (exact ⟨by first | rfl | (simp [errW_none, errW_some] <;> rfl) | (simp [*, errW_none, errW_some] <;> rfl), by repeat (first | (with_reducible first | exact HB.out | apply y1_ | apply y2_ | apply y3_ | refine y4_ ?_ GE132.out) | exact HB.out)⟩)
end Go.Proofs.Ytpfikmchimlneaa.M3
-- written by a program of this session (wip/myprint.py), over the kit's printer and the session's own contracts
namespace Go.Proofs.Ytpfikmchimlneaa.M3
open Go.RowKit Go.Proofs.YtpfikmchimlneaaW.PrintWords Go.Proofs.YtpfikmchimlneaaW.PrintLast Go.Proofs.YtpfikmchimlneaaW.PrintMore Go.Proofs.YtpfikmchimlneaaW.Mine
attribute [local go_sem] max2_int min2_int max_two min_two max_three min_three max_four min_four max2_str min2_str binOp_gtr_str binOp_leq_str binOp_geq_str   -- for this text's walks alone
set_option linter.unusedVariables false
set_option linter.unusedSimpArgs false
/-! ### key_ahead: function 129 -/
def key_ahead.f (a0 : ByteArray) (a1 : ByteArray) : Option (Bool) := if a1.toList = ([] : List UInt8) then (some true) else (some (Op.bytesLess a0.toList a1.toList))
set_option maxHeartbeats 8000000 in
set_option maxRecDepth 100000 in
theorem key_ahead.calls (a0 : ByteArray) (a1 : ByteArray) (r : Bool) (w : World) (h : key_ahead.f a0 a1 = some r) :
    Calls Try.prog 129 #[.string a0, .string a1] w fun e w' => e = .returned (.bool r) ∧ Drawn0 w w' := by
  (have H : (if a1.toList = ([] : List UInt8) then (some true) else (some (Op.bytesLess a0.toList a1.toList))) = some r := h); (clear h); (by_cases c3 : a1.toList = ([] : List UInt8))
  · rw [if_pos c3] at H
    (have c3b0 : (a1.toList == ([] : List UInt8)) = true := beq_iff_eq.mpr c3); (have c3b1 : (a1.toList != ([] : List UInt8)) = false := bne_eq_false_iff_eq.mpr c3); (clear c3); (obtain rfl := Option.some.inj H); (go_enter Try.func129, Try.ntmps129); (go_wp2); (go_ret); (exact ⟨by first | rfl | (simp; done) | (simp [*]; done), by repeat (first | exact Drawn0.refl _ | apply Drawn0.step)⟩)
  · rw [if_neg c3] at H
    (have c3b0 : (a1.toList == ([] : List UInt8)) = false := beq_eq_false_iff_ne.mpr c3); (have c3b1 : (a1.toList != ([] : List UInt8)) = true := bne_iff_ne.mpr c3); (obtain rfl := Option.some.inj H); (go_enter Try.func129, Try.ntmps129); (go_wp2); (go_ret); (exact ⟨by first | rfl | (simp; done) | (simp [*]; done), by repeat (first | exact Drawn0.refl _ | apply Drawn0.step)⟩)
end Go.Proofs.Ytpfikmchimlneaa.M3
-- written by a program of this session (wip/myprint.py), over the kit's printer and the session's own contracts
namespace Go.Proofs.Ytpfikmchimlneaa.M3
open Go.RowKit Go.Proofs.YtpfikmchimlneaaW.PrintWords Go.Proofs.YtpfikmchimlneaaW.PrintLast Go.Proofs.YtpfikmchimlneaaW.PrintMore Go.Proofs.YtpfikmchimlneaaW.Mine
attribute [local go_sem] max2_int min2_int max_two min_two max_three min_three max_four min_four max2_str min2_str binOp_gtr_str binOp_leq_str binOp_geq_str   -- for this text's walks alone
set_option linter.unusedVariables false
set_option linter.unusedSimpArgs false
/-! ### key_RightRange: function 120 -/
def key_RightRange.f (a0_0 : ByteArray) (a0_1 : ByteArray) : Option (Bool) := (key_ahead.f a0_0 a0_1).bind fun t141 => (some t141)
set_option maxHeartbeats 8000000 in
set_option maxRecDepth 100000 in
theorem key_RightRange.calls (a0_0 : ByteArray) (a0_1 : ByteArray) (r : Bool) (w : World) (h : key_RightRange.f a0_0 a0_1 = some r) :
    Calls Try.prog 120 #[.agg #[.string a0_0, .string a0_1]] w fun e w' => e = .returned (.bool r) ∧ Below w.heap.size w w' := by
  (have hu78 := Try.underlying78); (have HB := Aside0.mk (Below.refl w.heap.size w)); (have H : ((key_ahead.f a0_0 a0_1).bind fun t141 => (some t141)) = some r := h); (clear h); (replace H := Option.bind_eq_some_iff.mp H); (obtain ⟨t141, A20, H⟩ := H); (replace H : (some t141) = some r := H); (have A2 := Aside0.mk A20); (clear A20); (obtain rfl := Option.some.inj H); (go_enter Try.func120, Try.ntmps120)
  go_wp2_with (first | ((with_reducible refine gate_dst (N := 1) rfl ?_); refine box_event ?hg (N := 1) ?hd (cs := #[.string a0_0, .string a0_1]) (t := 78) ?hr ?_; (case hd => rfl); (case hg => rfl); (case hr => first | (go_simp; done) | (go_simp; rfl)); intro gb140 hg w3 hbox hb; have n0_ := Aside0.mk (below_step (by repeat (first | (with_reducible first | exact HB.out | apply y1_ | apply y2_ | apply y3_) | exact HB.out)) hb); have n1_ := Aside0.mk (hbox); have n2_ := Aside0.mk ((by rw [hg]; exact (below_size (by repeat (first | (with_reducible first | exact HB.out | apply y1_ | apply y2_ | apply y3_) | exact HB.out))) : w.heap.size ≤ gb140)); have n3_ := Aside0.mk ((by rw [hg]; exact (below_size (by repeat (first | (with_reducible first | exact HB.out | apply y1_ | apply y2_ | apply y3_) | exact HB.out))) : w.heap.size ≤ gb140)); clear HB; have HB := n0_; have BK140 := n1_; have GW140 := n2_; have GE140 := n3_; clear n0_ n1_ n2_ n3_; clear hb hbox hg; have hcz4_0 : w3.cell? ⟨gb140, 0, none⟩ = some (.string a0_0) := (blk_cell BK140.out 0).trans rfl; have hcz4_1 : w3.cell? ⟨gb140, 1, none⟩ = some (.string a0_1) := (blk_cell BK140.out 1).trans rfl; have hfz4_0 := blk_frozen BK140.out 0; have hfz4_1 := blk_frozen BK140.out 1) | ((with_reducible refine gate_callee (f := 129) rfl ?_); refine goesL_ (some 7) rfl rfl Try.func129 (by kernel_rfl) rfl #[.string a0_0, .string a0_1] rfl (by (try simp only [List.map_toArray, List.map_cons, List.map_nil]); first | done | rfl | (simp only [List.length_drop, List.length_take]; rfl)) ?_; (with_reducible refine (key_ahead.calls a0_0 a0_1 t141 _ A2.out).mono ?_); rintro e w' ⟨rfl, ⟨nd, rfl⟩⟩; refine ⟨_, rfl, ?_⟩))
  (go_ret); (exact ⟨by first | rfl | (simp [errW_none, errW_some] <;> rfl) | (simp [*, errW_none, errW_some] <;> rfl), by repeat (first | (with_reducible first | exact HB.out | apply y1_ | apply y2_ | apply y3_ | refine y4_ ?_ GE140.out) | exact HB.out)⟩)
end Go.Proofs.Ytpfikmchimlneaa.M3
-- written by a program of this session (wip/myprint.py), over the kit's printer and the session's own contracts
namespace Go.Proofs.Ytpfikmchimlneaa.M3
open Go.RowKit Go.Proofs.YtpfikmchimlneaaW.PrintWords Go.Proofs.YtpfikmchimlneaaW.PrintLast Go.Proofs.YtpfikmchimlneaaW.PrintMore Go.Proofs.YtpfikmchimlneaaW.Mine
attribute [local go_sem] max2_int min2_int max_two min_two max_three min_three max_four min_four max2_str min2_str binOp_gtr_str binOp_leq_str binOp_geq_str   -- for this text's walks alone
set_option linter.unusedVariables false
set_option linter.unusedSimpArgs false
/-! ### block_without: function 121 -/
open Go.Proofs.YtpfikmchimlneaaW.Sl
def block_without.f (l0 : List S85) (a1 a2 : Int) : Option (List S85) := if 0 ≤ a1 ∧ a1 ≤ mx a1 a2 ∧ mx a1 a2 ≤ (l0.length : Int) ∧ l0.length < 1000000 then some (l0.take a1.toNat ++ l0.drop (mx a1 a2).toNat) else none
set_option maxHeartbeats 8000000 in
set_option maxRecDepth 100000 in
theorem block_without.calls (A0 : Option Addr) (c0 : Nat) (l0 : List S85) (a1 a2 : Int) (r : List S85) (w : World) (hr0 : Kd.C k85 w A0 l0.length l0) (hc0 : l0.length ≤ c0) (h : block_without.f l0 a1 a2 = some r) :
    Calls Try.prog 121 #[.slice A0 l0.length c0, .int .i64 a1, .int .i64 a2] w fun e w' => ∃ v0_ : Value, e = .returned (v0_) ∧ Kd.R k85 85 w' w.heap.size (fun _ => True) v0_ r ∧ Below w.heap.size w w' := by
  unfold block_without.f at h
  by_cases hh : 0 ≤ a1 ∧ a1 ≤ mx a1 a2 ∧ mx a1 a2 ≤ (l0.length : Int) ∧ l0.length < 1000000
  · rw [if_pos hh] at h
    obtain rfl := Option.some.inj h
    obtain ⟨h1, h2, h3, h4⟩ := hh
    clear h
    have hmx : (if a1 < a2 then a2 else a1) = mx a1 a2 := by unfold mx; rfl
    generalize mx a1 a2 = m at *
    obtain ⟨i, rfl⟩ := Int.eq_ofNat_of_zero_le h1
    obtain ⟨j, rfl⟩ := Int.eq_ofNat_of_zero_le (Int.le_trans h1 h2)
    have hij : i ≤ j := by omega
    have hjn : j ≤ l0.length := by omega
    rw [Int.toNat_natCast, Int.toNat_natCast]
    obtain ⟨i0, hi0, _, hsz, _⟩ := info_parts info85
    have hct := cut_to (P := Try.prog) 74 85 .i64 Try.underlying74 hi0 A0 l0.length c0 (i : Int) (by omega) (by omega) hc0
    have hcf := cut_from (P := Try.prog) 74 85 .i64 Try.underlying74 hi0 2 hsz A0 l0.length c0 (j : Int) (by omega) (by omega)
    rw [Int.toNat_natCast] at hct hcf
    have HD : ∀ w1, Below w.heap.size w w1 → Kd.C k85 w1 (if c0 = j then A0 else A0.map (·.add (j * 2))) (l0.length - j) (l0.drop j) := by
      intro w1 hb
      have hC := Kd.C_below hr0 hb
      by_cases hz : l0.length - j = 0
      · rw [List.drop_eq_nil_of_le (by omega), hz]
        exact ⟨rfl, by omega, fun h => absurd h (by omega)⟩
      · obtain ⟨ad, rfl, _⟩ := hr0.2.2 (by omega)
        rw [if_neg (by omega)]
        exact C_drop hC j (j * 2) rfl hjn
    have HC := Aside0.mk hr0
    have HDD := Aside0.mk HD
    have HL := Aside0.mk h4
    have hmk := mk_cap (P := Try.prog) 74 85 (.agg #[.string ⟨#[]⟩, .string ⟨#[]⟩]) 32 Try.underlying74 info85 l0.length (by omega)
    have HMB : Aside0 (Below w.heap.size w (w.drew.alloc (.cells (madeCells #[.string ⟨#[]⟩, .string ⟨#[]⟩] (l0.length * 2)) 85))) := ⟨(Below.refl _ w).drew.alloc (Nat.le_refl _) _⟩
    have HM : Aside0 (Kd.R k85 85 (w.drew.alloc (.cells (madeCells #[.string ⟨#[]⟩, .string ⟨#[]⟩] (l0.length * 2)) 85)) w.heap.size (fun _ => True) (.slice (some ⟨w.heap.size, 0, none⟩) 0 l0.length) []) := ⟨grown_nil k85 (W := w.drew) 85 _ l0.length (by unfold maxLen; omega) (size_madeCells _ _)⟩
    clear HD hr0 h4 hi0 hsz
    generalize (if c0 = j then A0 else A0.map (·.add (j * 2))) = AJ at *
    go_enter Try.func121, Try.ntmps121
    go_wp2_with fail
    go_region_law (first
      | (refine Kd.R_append_rows_step k85 (Rr := k85.K _) (w0 := w) w.heap.size rfl _ _ 74 85 (.agg #[.string ⟨#[]⟩, .string ⟨#[]⟩]) 32 rfl Try.underlying74 info85 rfl (by decide) (by omega) (.slice (some ⟨w.heap.size, 0, none⟩) 0 l0.length) [] (l0.take i) A0 i c0 (fun _ => True) (fun _ => False) (by simp [Act.eval, Act.put]) (by simp [Act.eval, Act.put]) HM.out (C_take (Kd.C_below HC.out HMB.out) i (by omega)) (fun _ _ h => h) (fun _ h => h.elim) (fun _ _ => trivial) HMB.out HMB.out.size (by have := HL.out; simp; omega) ?_; intro v2 w2 hR2 hB2 _ _; have HR2 := Aside0.mk hR2; have HB2 := Aside0.mk hB2; clear hR2 hB2)
      | (refine Kd.R_append_rows_step k85 (Rr := k85.K _) (w0 := w) w.heap.size rfl _ _ 74 85 (.agg #[.string ⟨#[]⟩, .string ⟨#[]⟩]) 32 rfl Try.underlying74 info85 rfl (by decide) (by omega) v2 ([] ++ l0.take i) (l0.drop j) AJ (l0.length - j) (c0 - j) (fun _ => True) (fun _ => False) (by simp [Act.eval, Act.put]) (by simp [Act.eval, Act.put]) HR2.out (HDD.out _ HB2.out) (fun _ _ h => h) (fun _ h => h.elim) (fun _ _ => trivial) HB2.out HB2.out.size (by have := HL.out; simp; omega) ?_; intro v3 w3 hR3 hB3 _ _; have HR3 := Aside0.mk hR3; have HB3 := Aside0.mk hB3; clear hR3 hB3))
    all_goals (first | (go_ret; exact ⟨_, rfl, HR3.out, HB3.out⟩) | (go_wp2; go_ret; exact ⟨_, rfl, HR3.out, HB3.out⟩))
  · rw [if_neg hh] at h
    cases h
end Go.Proofs.Ytpfikmchimlneaa.M3
-- written by a program of this session (wip/myprint.py), over the kit's printer and the session's own contracts
namespace Go.Proofs.Ytpfikmchimlneaa.M3
open Go.RowKit Go.Proofs.YtpfikmchimlneaaW.PrintWords Go.Proofs.YtpfikmchimlneaaW.PrintLast Go.Proofs.YtpfikmchimlneaaW.PrintMore Go.Proofs.YtpfikmchimlneaaW.Mine
attribute [local go_sem] max2_int min2_int max_two min_two max_three min_three max_four min_four max2_str min2_str binOp_gtr_str binOp_leq_str binOp_geq_str   -- for this text's walks alone
set_option linter.unusedVariables false
set_option linter.unusedSimpArgs false
/-! ### key_After: function 130 -/
def key_After.f (a0 : ByteArray) : Option (ByteArray) := if a0.size + 1 ≤ 9223372036854775807 then (some (a0 ++ (⟨#[0]⟩ : ByteArray))) else (none)
set_option maxHeartbeats 8000000 in
set_option maxRecDepth 100000 in
theorem key_After.calls (a0 : ByteArray) (r : ByteArray) (w : World) (h : key_After.f a0 = some r) :
    Calls Try.prog 130 #[.string a0] w fun e w' => e = .returned (.string r) ∧ Drawn0 w w' := by
  (have H : (if a0.size + 1 ≤ 9223372036854775807 then (some (a0 ++ (⟨#[0]⟩ : ByteArray))) else (none)) = some r := h); (clear h); (by_cases c2 : a0.size + 1 ≤ 9223372036854775807)
  · rw [if_pos c2] at H
    (have c2b0 := eq_true c2); (have c2b1 : decide (a0.size + 1 ≤ 9223372036854775807) = true := decide_eq_true c2); (try have c2b2 : (9223372036854775807 < a0.size + 1) = False := eq_false (Nat.not_lt.2 c2)); (obtain rfl := Option.some.inj H); (go_enter Try.func130, Try.ntmps130); (go_wp2); (go_ret); (exact ⟨by first | rfl | (simp; done) | (simp [*]; done), by repeat (first | exact Drawn0.refl _ | apply Drawn0.step)⟩)
  · rw [if_neg c2] at H
    exact absurd H (by simp)
end Go.Proofs.Ytpfikmchimlneaa.M3
-- written by a program of this session (wip/myprint.py), over the kit's printer and the session's own contracts
namespace Go.Proofs.Ytpfikmchimlneaa.M3
open Go.RowKit Go.Proofs.YtpfikmchimlneaaW.PrintWords Go.Proofs.YtpfikmchimlneaaW.PrintLast Go.Proofs.YtpfikmchimlneaaW.PrintMore Go.Proofs.YtpfikmchimlneaaW.Mine
attribute [local go_sem] max2_int min2_int max_two min_two max_three min_three max_four min_four max2_str min2_str binOp_gtr_str binOp_leq_str binOp_geq_str   -- for this text's walks alone
set_option linter.unusedVariables false
set_option linter.unusedSimpArgs false
/-! ### key_Point: function 122 -/
def key_Point.f (a0 : ByteArray) : Option (ByteArray × ByteArray) := (key_After.f a0).bind fun t155 => (some (a0, t155))
set_option maxHeartbeats 8000000 in
set_option maxRecDepth 100000 in
theorem key_Point.calls (a0 : ByteArray) (r1 : ByteArray) (r2 : ByteArray) (w : World) (h : key_Point.f a0 = some (r1, r2)) :
    Calls Try.prog 122 #[.string a0] w fun e w' => e = .returned (.agg #[.string r1, .string r2]) ∧ Below w.heap.size w w' := by
  (have hu78 := Try.underlying78); (have HB := Aside0.mk (Below.refl w.heap.size w)); (have H : ((key_After.f a0).bind fun t155 => (some (a0, t155))) = some (r1, r2) := h); (clear h); (replace H := Option.bind_eq_some_iff.mp H); (obtain ⟨t155, A20, H⟩ := H); (replace H : (some (a0, t155)) = some (r1, r2) := H); (have A2 := Aside0.mk A20); (clear A20); (simp only [Option.some.injEq, Prod.mk.injEq] at H); (obtain ⟨rfl, rfl⟩ := H); (go_enter Try.func122, Try.ntmps122)
  go_wp2_with (first | ((with_reducible refine gate_dst (N := 2) rfl ?_); refine box_event ?hg (N := 2) ?hd (cs := #[.string (⟨#[]⟩ : ByteArray), .string (⟨#[]⟩ : ByteArray)]) (t := 78) ?hr ?_; (case hd => rfl); (case hg => rfl); (case hr => first | (go_simp; done) | (go_simp; rfl)); intro gb154 hg w3 hbox hb; have n0_ := Aside0.mk (below_step (by repeat (first | (with_reducible first | exact HB.out | apply y1_ | apply y2_ | apply y3_) | exact HB.out)) hb); have n1_ := Aside0.mk (hbox); have n2_ := Aside0.mk ((by rw [hg]; exact (below_size (by repeat (first | (with_reducible first | exact HB.out | apply y1_ | apply y2_ | apply y3_) | exact HB.out))) : w.heap.size ≤ gb154)); have n3_ := Aside0.mk ((by rw [hg]; exact (below_size (by repeat (first | (with_reducible first | exact HB.out | apply y1_ | apply y2_ | apply y3_) | exact HB.out))) : w.heap.size ≤ gb154)); clear HB; have HB := n0_; have BK154 := n1_; have GW154 := n2_; have GE154 := n3_; clear n0_ n1_ n2_ n3_; clear hb hbox hg) | ((with_reducible refine gate_callee (f := 130) rfl ?_); refine goesL_ (some 5) rfl rfl Try.func130 (by kernel_rfl) rfl #[.string a0] rfl (by (try simp only [List.map_toArray, List.map_cons, List.map_nil]); first | done | rfl | (simp only [List.length_drop, List.length_take]; rfl)) ?_; (with_reducible refine (key_After.calls a0 t155 _ A2.out).mono ?_); rintro e w' ⟨rfl, ⟨nd, rfl⟩⟩; refine ⟨_, rfl, ?_⟩; (try (rw [drewN_self w3]; generalize hq_ : World.drewN w3 _ = w3; have n0_ : Aside0 (w3.heap[gb154]? = some (.cells #[.string (⟨#[]⟩ : ByteArray), .string (⟨#[]⟩ : ByteArray)] 78 (0, 0))) := ⟨by rw [← hq_]; exact (by (with_reducible repeat (first | refine z1_ ?_ _ | refine z2_ ?_ | refine z3_ ?_ _)); exact BK154.out)⟩; have n1_ : Aside0 (Below w.heap.size w w3) := ⟨by rw [← hq_]; exact (by repeat (first | (with_reducible first | exact HB.out | apply y1_ | apply y2_ | apply y3_ | refine y4_ ?_ GE154.out) | exact HB.out))⟩; clear BK154 HB hq_; have BK154 := n0_; have HB := n1_; clear n0_ n1_)); have hcz4_0 : w3.cell? ⟨gb154, 0, none⟩ = some (.string (⟨#[]⟩ : ByteArray)) := (blk_cell BK154.out 0).trans rfl; have hcz4_1 : w3.cell? ⟨gb154, 1, none⟩ = some (.string (⟨#[]⟩ : ByteArray)) := (blk_cell BK154.out 1).trans rfl; have hfz4_0 := blk_frozen BK154.out 0; have hfz4_1 := blk_frozen BK154.out 1))
  (refine bodyPost_ret (results_cell_row rfl _ _ gb154 78 #[.string a0, .string t155] (0, 0) _ rfl (by (with_reducible repeat (first | refine z1_ ?_ _ | refine z2_ ?_ | refine z3_ ?_ _)); refine blk_put (cs := #[.string a0, .string (⟨#[]⟩ : ByteArray)]) ?_ 1 _ rfl; (with_reducible repeat (first | refine z1_ ?_ _ | refine z2_ ?_ | refine z3_ ?_ _)); refine blk_put (cs := #[.string (⟨#[]⟩ : ByteArray), .string (⟨#[]⟩ : ByteArray)]) ?_ 0 _ rfl; (with_reducible repeat (first | refine z1_ ?_ _ | refine z2_ ?_ | refine z3_ ?_ _)); exact BK154.out) Try.underlying78 rfl (by kernel_rfl)) rfl ?_); (exact ⟨by first | rfl | (simp [errW_none, errW_some] <;> rfl) | (simp [*, errW_none, errW_some] <;> rfl), by repeat (first | (with_reducible first | exact HB.out | apply y1_ | apply y2_ | apply y3_ | refine y4_ ?_ GE154.out) | exact HB.out)⟩)
end Go.Proofs.Ytpfikmchimlneaa.M3
-- written by a program of this session (wip/myprint.py), over the kit's printer and the session's own contracts
namespace Go.Proofs.Ytpfikmchimlneaa.M3
open Go.RowKit Go.Proofs.YtpfikmchimlneaaW.PrintWords Go.Proofs.YtpfikmchimlneaaW.PrintLast Go.Proofs.YtpfikmchimlneaaW.PrintMore Go.Proofs.YtpfikmchimlneaaW.Mine
attribute [local go_sem] max2_int min2_int max_two min_two max_three min_three max_four min_four max2_str min2_str binOp_gtr_str binOp_leq_str binOp_geq_str   -- for this text's walks alone
set_option linter.unusedVariables false
set_option linter.unusedSimpArgs false
/-! ### word_Take: function 131 -/
def word_Take.l0 : Nat → ByteArray → Int → Int → Int → Option (Int × Bool)
  | 0, _, _, _, _ => none
  | k + 1, x0, x4, x10, x11 => if x11 < x10 then (if 0 ≤ x11 then (if x11 < (x0.size : Int) then (word_Take.l0 k x0 (Go.bits .or .u64 (IntKind.u64.wrap (x4 * 256)) (IntKind.u64.wrap (bt x0 x11))) x10 (wrap64 (x11 + 1))) else (none)) else (none)) else (some (x4, true))
def word_Take.f (k : Nat) (a0 : ByteArray) : Option (Int × Bool) := if (a0.size : Int) = 8 then (word_Take.l0 k a0 0 (a0.size : Int) 0) else (some (0, false))
theorem word_Take.mono_l : ∀ k, (∀ y0 y1 y2 y3, LeO (word_Take.l0 k y0 y1 y2 y3) (word_Take.l0 (k + 1) y0 y1 y2 y3))
  | 0 => fun _ _ _ _ r h => by simp [word_Take.l0] at h
  | k + 1 => by
    have ih0 := word_Take.mono_l k
    · intro y0 y1 y2 y3
      unfold word_Take.l0
      repeat' first
      | (with_reducible exact ih0 _ _ _ _)
      | (with_reducible exact LeO.refl _)
      | (with_reducible exact LeO.none _)
      | (with_reducible refine LeO.ite ?_ ?_)
      | (with_reducible refine LeO.bind ?_ (fun _ => ?_))
      | exact ih0 _ _ _ _
      | exact LeO.none _
      | refine LeO.ite ?_ ?_
      | refine LeO.bind ?_ (fun _ => ?_)
theorem word_Take.mono : ∀ a0 k, LeO (word_Take.f k a0) (word_Take.f (k + 1) a0) := by
  (intro a0 k); (have ih0 := word_Take.mono_l k); (unfold word_Take.f)
  repeat' first
      | (with_reducible exact ih0 _ _ _ _)
      | (with_reducible exact LeO.refl _)
      | (with_reducible exact LeO.none _)
      | (with_reducible refine LeO.ite ?_ ?_)
      | (with_reducible refine LeO.bind ?_ (fun _ => ?_))
      | exact ih0 _ _ _ _
      | exact LeO.none _
      | refine LeO.ite ?_ ?_
      | refine LeO.bind ?_ (fun _ => ?_)
set_option maxHeartbeats 8000000 in
set_option maxRecDepth 100000 in
theorem word_Take.calls (k : Nat) (a0 : ByteArray) (r1 : Int) (r2 : Bool) (w : World) (h : word_Take.f k a0 = some (r1, r2)) :
    Calls Try.prog 131 #[.string a0] w fun e w' => e = .returned (.tuple #[.int .u64 r1, .bool r2]) ∧ Drawn0 w w' := by
  (have H : (if (a0.size : Int) = 8 then (word_Take.l0 k a0 0 (a0.size : Int) 0) else (some (0, false))) = some (r1, r2) := h); (clear h); (by_cases c2 : (a0.size : Int) = 8)
  · rw [if_pos c2] at H
    (have c2b0 : ((a0.size : Int) == 8) = true := beq_iff_eq.mpr c2); (have c2b1 : ((a0.size : Int) != 8) = false := bne_eq_false_iff_eq.mpr c2); (clear c2); (have H' := Aside0.mk H); (clear H); (go_enter Try.func131, Try.ntmps131); (go_wp2); (go_loopg [4, 11] k (fun kq v4 v11 w' => ∃ (x4_1 : Int) (x11_1 : Int), v4 = .int .u64 x4_1 ∧ v11 = .int .i64 x11_1 ∧ Aside0 (word_Take.l0 kq a0 x4_1 (a0.size : Int) x11_1 = some (r1, r2)) ∧ Aside0 (kq ≤ k) ∧ Drawn0 w w'))
    case atStart => exact ⟨(0), (0), (by first | rfl | (simp; done) | (simp [*]; done)), (by first | rfl | (simp; done) | (simp [*]; done)), H', ⟨Nat.le_refl _⟩, by repeat (first | exact Drawn0.refl _ | apply Drawn0.step)⟩
    case round =>
      (clear H'); (try clear c1); (try clear c2); (try clear c2b0); (try clear c2b1); (try clear p2); (obtain ⟨x4_1, x11_1, rfl, rfl, HA, HK1, ⟨m1, rfl⟩⟩ := hrel)
      cases gk with
      | zero => exact absurd HA.out (by simp [word_Take.l0])
      | succ k1 =>
        (have H := HA.out); (clear HA); (simp only [word_Take.l0] at H); (by_cases c3 : x11_1 < (a0.size : Int))
        · rw [if_pos c3] at H
          (have c3b0 : decide (x11_1 < (a0.size : Int)) = true := decide_eq_true c3); (clear c3); (by_cases c4 : 0 ≤ x11_1)
          · rw [if_pos c4] at H
            (have c4b0 : decide (0 ≤ x11_1) = true := decide_eq_true c4); (clear c4); (by_cases c5 : x11_1 < (a0.size : Int))
            · rw [if_pos c5] at H
              (have c5b0 : decide (x11_1 < (a0.size : Int)) = true := decide_eq_true c5); (clear c5); (have H' := Aside0.mk H); (clear H); (have p6 : 0 ≤ (x11_1 : Int) := of_decide_eq_true (by first | (with_reducible assumption) | assumption)); (have q6 : x11_1 < (a0.size : Int) := of_decide_eq_true (by first | (with_reducible assumption) | assumption)); (have hx6 := bt_at a0 x11_1); (replace p6 := eq_true p6); (replace q6 := eq_true q6); (go_wp2); (go_roundg k1)
              case measure => have := HK1.out; omega
              case rel => exact ⟨(Go.bits .or .u64 (IntKind.u64.wrap (x4_1 * 256)) (IntKind.u64.wrap (bt a0 x11_1))), (wrap64 (x11_1 + 1)), (by first | rfl | (simp; done) | (simp [*]; done)), (by first | rfl | (simp; done) | (simp [*]; done)), H', ⟨by have := HK1.out; omega⟩, by repeat (first | exact Drawn0.refl _ | apply Drawn0.step)⟩
            · rw [if_neg c5] at H
              exact absurd H (by simp)
          · rw [if_neg c4] at H
            exact absurd H (by simp)
        · rw [if_neg c3] at H
          (have c3b0 : decide (x11_1 < (a0.size : Int)) = false := decide_eq_false c3); (clear c3); (simp only [Option.some.injEq, Prod.mk.injEq] at H); (obtain ⟨rfl, rfl⟩ := H); (go_wp2); (go_ret2); (exact ⟨by first | rfl | (simp; done) | (simp [*]; done), by repeat (first | exact Drawn0.refl _ | apply Drawn0.step)⟩)
  · rw [if_neg c2] at H
    (have c2b0 : ((a0.size : Int) == 8) = false := beq_eq_false_iff_ne.mpr c2); (have c2b1 : ((a0.size : Int) != 8) = true := bne_iff_ne.mpr c2); (simp only [Option.some.injEq, Prod.mk.injEq] at H); (obtain ⟨rfl, rfl⟩ := H); (go_enter Try.func131, Try.ntmps131); (go_wp2); (go_ret2); (exact ⟨by first | rfl | (simp; done) | (simp [*]; done), by repeat (first | exact Drawn0.refl _ | apply Drawn0.step)⟩)
end Go.Proofs.Ytpfikmchimlneaa.M3
-- written by a program of this session (wip/myprint.py), over the kit's printer and the session's own contracts
namespace Go.Proofs.Ytpfikmchimlneaa.M3
open Go.RowKit Go.Proofs.YtpfikmchimlneaaW.PrintWords Go.Proofs.YtpfikmchimlneaaW.PrintLast Go.Proofs.YtpfikmchimlneaaW.PrintMore Go.Proofs.YtpfikmchimlneaaW.Mine
attribute [local go_sem] max2_int min2_int max_two min_two max_three min_three max_four min_four max2_str min2_str binOp_gtr_str binOp_leq_str binOp_geq_str   -- for this text's walks alone
set_option linter.unusedVariables false
set_option linter.unusedSimpArgs false
/-! ### word_Put: function 132 -/
def word_Put.nums (a0 : Int) : List Int := [a0 / 72057594037927936 % 256, a0 / 281474976710656 % 256, a0 / 1099511627776 % 256, a0 / 4294967296 % 256, a0 / 16777216 % 256, a0 / 65536 % 256, a0 / 256 % 256, a0 % 256]
def word_Put.f (a0 : Int) : Option (ByteArray) := some (strOfNums (word_Put.nums a0))
theorem word_Put.eight (w : World) (t : TypeId) (x0 x1 x2 x3 x4 x5 x6 x7 : Int) :
    (Kd.int .u8).C (w.alloc (.cells #[.int .u8 x0, .int .u8 x1, .int .u8 x2, .int .u8 x3, .int .u8 x4, .int .u8 x5, .int .u8 x6, .int .u8 x7] t)) (some ⟨w.heap.size, 0, none⟩) 8 [x0, x1, x2, x3, x4, x5, x6, x7] := by
  refine ⟨rfl, by decide, fun _ => ⟨_, rfl, ?_⟩⟩
  intro j p hp
  have hj : j < 8 := (List.getElem?_eq_some_iff.1 hp).1
  refine ⟨[.int .u8 p], rfl, rfl, ?_⟩
  intro i u hu
  have hi : i = 0 := by
    have := (List.getElem?_eq_some_iff.1 hu).1
    simpa using this
  subst hi
  obtain rfl : Value.int .u8 p = u := by simpa using hu
  have hc : ∀ (cs : Array Value) (i : Nat), (w.alloc (.cells cs t)).cell? ⟨w.heap.size, i, none⟩ = cs[i]? := by
    intro cs i
    exact World.cell?_alloc_at cs t _ i rfl
  have ha : (⟨w.heap.size, 0, none⟩ : Addr).add (j * (Kd.int .u8).sz + 0) = ⟨w.heap.size, j, none⟩ := by
    show (⟨w.heap.size, 0, none⟩ : Addr).add (j * 1 + 0) = _
    unfold Addr.add
    split
    · have : j = 0 := by omega
      subst this
      rfl
    · simp
  rw [ha, hc]
  match j, hj with
  | 0, _ | 1, _ | 2, _ | 3, _ | 4, _ | 5, _ | 6, _ | 7, _ =>
    obtain rfl := Option.some.inj hp
    rfl
set_option maxHeartbeats 4000000 in
set_option maxRecDepth 100000 in
theorem word_Put.calls (a0 : Int) (r : ByteArray) (w : World) (h : word_Put.f a0 = some r) :
    Calls Try.prog 132 #[.int .u64 a0] w fun e w' => e = .returned (.string r) ∧ Below w.heap.size w w' := by
  have H := Aside0.mk (Option.some.inj h)
  clear h
  go_enter Try.func132, Try.ntmps132
  go_wp2
  refine wp_loop_rounds 9 ?_
  iterate 9 (rw [rounds_succ]; go_wp2)
  rw [Kd.C_string (xs := word_Put.nums a0) (e := 5) Try.underlying183 Try.underlying5 Try.underlying9 (word_Put.eight w 182 _ _ _ _ _ _ _ _)]
  simp only [Result.andThen]
  rw [Oper.upon_value]
  go_wp2
  go_ret
  go_light
  exact ⟨by rw [← H.out]; rfl, (Below.refl _ _).alloc (Nat.le_refl _) _⟩
end Go.Proofs.Ytpfikmchimlneaa.M3
-- written by a program of this session (wip/myprint.py), over the kit's printer and the session's own contracts
namespace Go.Proofs.Ytpfikmchimlneaa.M3
open Go.RowKit Go.Proofs.YtpfikmchimlneaaW.PrintWords Go.Proofs.YtpfikmchimlneaaW.PrintLast Go.Proofs.YtpfikmchimlneaaW.PrintMore Go.Proofs.YtpfikmchimlneaaW.Mine
attribute [local go_sem] max2_int min2_int max_two min_two max_three min_three max_four min_four max2_str min2_str binOp_gtr_str binOp_leq_str binOp_geq_str   -- for this text's walks alone
set_option linter.unusedVariables false
set_option linter.unusedSimpArgs false
/-! ### word_Add: function 123 -/
def word_Add.f (k : Nat) (a0 : ByteArray) (a1 : Bool) (a2 : Int) : Option (ByteArray) := (word_Take.f k a0).bind fun bt161 => (if a1 = true then (if bt161.2 = true then ((word_Put.f (IntKind.u64.wrap (bt161.1 + a2))).bind fun t163 => (some t163)) else (some a0)) else ((word_Put.f a2).bind fun t164 => (some t164)))
theorem word_Add.mono : ∀ a0 a1 a2 k, LeO (word_Add.f k a0 a1 a2) (word_Add.f (k + 1) a0 a1 a2) := by
  (intro a0 a1 a2 k); (unfold word_Add.f)
  repeat' first
      | (with_reducible exact word_Take.mono _ _)
      | (with_reducible exact LeO.refl _)
      | (with_reducible exact LeO.none _)
      | (with_reducible refine LeO.ite ?_ ?_)
      | (with_reducible refine LeO.bind ?_ (fun _ => ?_))
      | exact word_Take.mono _ _
      | exact LeO.none _
      | refine LeO.ite ?_ ?_
      | refine LeO.bind ?_ (fun _ => ?_)
set_option maxHeartbeats 8000000 in
set_option maxRecDepth 100000 in
theorem word_Add.calls (k : Nat) (a0 : ByteArray) (a1 : Bool) (a2 : Int) (r : ByteArray) (w : World) (h : word_Add.f k a0 a1 a2 = some r) :
    Calls Try.prog 123 #[.string a0, .bool a1, .int .u64 a2] w fun e w' => e = .returned (.string r) ∧ Below w.heap.size w w' := by
  (have HB := Aside0.mk (Below.refl w.heap.size w)); (have H : ((word_Take.f k a0).bind fun bt161 => (if a1 = true then (if bt161.2 = true then ((word_Put.f (IntKind.u64.wrap (bt161.1 + a2))).bind fun t163 => (some t163)) else (some a0)) else ((word_Put.f a2).bind fun t164 => (some t164)))) = some r := h); (clear h); (replace H := Option.bind_eq_some_iff.mp H); (obtain ⟨⟨t161, t162⟩, A40, H⟩ := H); (replace H : (if a1 = true then (if t162 = true then ((word_Put.f (IntKind.u64.wrap (t161 + a2))).bind fun t163 => (some t163)) else (some a0)) else ((word_Put.f a2).bind fun t164 => (some t164))) = some r := H); (have A4 := Aside0.mk A40); (clear A40); (by_cases c5 : a1 = true)
  · subst c5
    (have H1 : (if t162 = true then ((word_Put.f (IntKind.u64.wrap (t161 + a2))).bind fun t163 => (some t163)) else (some a0)) = some r := by rw [if_pos rfl] at H; exact H); (clear H); (have H := H1); (clear H1); (by_cases c6 : t162 = true)
    · subst c6
      (have H1 : ((word_Put.f (IntKind.u64.wrap (t161 + a2))).bind fun t163 => (some t163)) = some r := by rw [if_pos rfl] at H; exact H); (clear H); (have H := H1); (clear H1); (replace H := Option.bind_eq_some_iff.mp H); (obtain ⟨t163, A70, H⟩ := H); (replace H : (some t163) = some r := H); (have A7 := Aside0.mk A70); (clear A70); (obtain rfl := Option.some.inj H); (go_enter Try.func123, Try.ntmps123)
      (go_wp2_with (first | ((with_reducible refine gate_callee (f := 131) rfl ?_); refine goesL_ (some 11) rfl rfl Try.func131 (by kernel_rfl) rfl #[.string a0] rfl (by (try simp only [List.map_toArray, List.map_cons, List.map_nil]); first | done | rfl | (simp only [List.length_drop, List.length_take]; rfl)) ?_; (with_reducible refine (word_Take.calls k a0 t161 true _ A4.out).mono ?_); rintro e w' ⟨rfl, ⟨nd, rfl⟩⟩; refine ⟨_, rfl, ?_⟩) | ((with_reducible refine gate_callee (f := 132) rfl ?_); refine goesL_ (some 24) rfl rfl Try.func132 (by kernel_rfl) rfl #[.int .u64 (IntKind.u64.wrap (t161 + a2))] rfl (by (try simp only [List.map_toArray, List.map_cons, List.map_nil]); first | done | rfl | (simp only [List.length_drop, List.length_take]; rfl)) ?_; (with_reducible refine (word_Put.calls (IntKind.u64.wrap (t161 + a2)) t163 _ A7.out).mono ?_); rintro e w8 ⟨rfl, hb⟩; refine ⟨_, rfl, ?_⟩; have n0_ := Aside0.mk (below_step (by repeat (first | (with_reducible first | exact HB.out | apply y1_ | apply y2_ | apply y3_) | exact HB.out)) hb); clear HB; have HB := n0_; clear n0_; (try clear hb); (try clear hb2); (try clear hk); (try clear hi)))); (go_ret)
      exact ⟨by first | rfl | (simp [errW_none, errW_some] <;> rfl) | (simp [*, errW_none, errW_some] <;> rfl), by repeat (first | (with_reducible first | exact HB.out | apply y1_ | apply y2_ | apply y3_) | exact HB.out)⟩
    · replace c6 := Bool.eq_false_iff.mpr c6
      (subst c6); (have H1 : (some a0) = some r := by rw [if_neg (show ¬ (false = true) by decide)] at H; exact H); (clear H); (have H := H1); (clear H1); (obtain rfl := Option.some.inj H); (go_enter Try.func123, Try.ntmps123); (go_wp2_with (first | ((with_reducible refine gate_callee (f := 131) rfl ?_); refine goesL_ (some 11) rfl rfl Try.func131 (by kernel_rfl) rfl #[.string a0] rfl (by (try simp only [List.map_toArray, List.map_cons, List.map_nil]); first | done | rfl | (simp only [List.length_drop, List.length_take]; rfl)) ?_; (with_reducible refine (word_Take.calls k a0 t161 false _ A4.out).mono ?_); rintro e w' ⟨rfl, ⟨nd, rfl⟩⟩; refine ⟨_, rfl, ?_⟩))); (go_ret); (exact ⟨by first | rfl | (simp [errW_none, errW_some] <;> rfl) | (simp [*, errW_none, errW_some] <;> rfl), by repeat (first | (with_reducible first | exact HB.out | apply y1_ | apply y2_ | apply y3_) | exact HB.out)⟩)
  · replace c5 := Bool.eq_false_iff.mpr c5
    (subst c5); (have H1 : ((word_Put.f a2).bind fun t164 => (some t164)) = some r := by rw [if_neg (show ¬ (false = true) by decide)] at H; exact H); (clear H); (have H := H1); (clear H1); (replace H := Option.bind_eq_some_iff.mp H); (obtain ⟨t164, A90, H⟩ := H); (replace H : (some t164) = some r := H); (have A9 := Aside0.mk A90); (clear A90); (obtain rfl := Option.some.inj H); (go_enter Try.func123, Try.ntmps123)
    (go_wp2_with (first | ((with_reducible refine gate_callee (f := 131) rfl ?_); refine goesL_ (some 11) rfl rfl Try.func131 (by kernel_rfl) rfl #[.string a0] rfl (by (try simp only [List.map_toArray, List.map_cons, List.map_nil]); first | done | rfl | (simp only [List.length_drop, List.length_take]; rfl)) ?_; (with_reducible refine (word_Take.calls k a0 t161 t162 _ A4.out).mono ?_); rintro e w' ⟨rfl, ⟨nd, rfl⟩⟩; refine ⟨_, rfl, ?_⟩) | ((with_reducible refine gate_callee (f := 132) rfl ?_); refine goesL_ (some 18) rfl rfl Try.func132 (by kernel_rfl) rfl #[.int .u64 a2] rfl (by (try simp only [List.map_toArray, List.map_cons, List.map_nil]); first | done | rfl | (simp only [List.length_drop, List.length_take]; rfl)) ?_; (with_reducible refine (word_Put.calls a2 t164 _ A9.out).mono ?_); rintro e w10 ⟨rfl, hb⟩; refine ⟨_, rfl, ?_⟩; have n0_ := Aside0.mk (below_step (by repeat (first | (with_reducible first | exact HB.out | apply y1_ | apply y2_ | apply y3_) | exact HB.out)) hb); clear HB; have HB := n0_; clear n0_; (try clear hb); (try clear hb2); (try clear hk); (try clear hi)))); (go_ret)
    exact ⟨by first | rfl | (simp [errW_none, errW_some] <;> rfl) | (simp [*, errW_none, errW_some] <;> rfl), by repeat (first | (with_reducible first | exact HB.out | apply y1_ | apply y2_ | apply y3_) | exact HB.out)⟩
end Go.Proofs.Ytpfikmchimlneaa.M3
-- written by a program of this session (wip/myprint.py), over the kit's printer and the session's own contracts
namespace Go.Proofs.Ytpfikmchimlneaa.M3
open Go.RowKit Go.Proofs.YtpfikmchimlneaaW.PrintWords Go.Proofs.YtpfikmchimlneaaW.PrintLast Go.Proofs.YtpfikmchimlneaaW.PrintMore Go.Proofs.YtpfikmchimlneaaW.Mine
attribute [local go_sem] max2_int min2_int max_two min_two max_three min_three max_four min_four max2_str min2_str binOp_gtr_str binOp_leq_str binOp_geq_str   -- for this text's walks alone
set_option linter.unusedVariables false
set_option linter.unusedSimpArgs false
/-! ### api_Entry_124: function 124 -/
open Go.Proofs.YtpfikmchimlneaaW.Sl
theorem api_Entry_124.info : (Try.prog.info? 85).map (fun i => (i.zero, i.size, i.bytes)) = some (some (.agg #[(.string ⟨#[]⟩), (.string ⟨#[]⟩)]), 2, 32) := by kernel_rfl
theorem api_Entry_124.flat : Flat k85 := by first | exact flat_string | exact flat_int _ | exact flat_bool | exact flat_iso (by repeat (first | exact flat_string | exact flat_int _ | exact flat_bool | refine flat_pair ?_ ?_)) _
theorem api_Entry_124.sz : (Try.prog.info? 85).map (·.size) = some (k85).sz := by kernel_rfl
set_option maxHeartbeats 4000000 in
set_option maxRecDepth 100000 in
/-- Insert, of one, into a row with no room, at its end. -/
theorem api_Entry_124.at_end (A0 : Option Addr) (l0 : List S85) (x : List S85) (hx : x.length = 1) (bx : Addr) (w : World) (hr0 : Kd.C k85 w A0 l0.length l0) (hcx : Kd.C k85 w (some bx) 1 x) (hl : l0.length < 1000000) :
    Calls Try.prog 124 #[.slice A0 l0.length l0.length, .int .i64 (l0.length : Int), .slice (some bx) 1 1] w fun e w' => ∃ v : Value, e = .returned v ∧ Kd.R k85 85 w' w.heap.size (fun _ => True) v (l0 ++ x) ∧ Below w.heap.size w w' := by
  have hrun := R_append_run (P := Try.prog) k85 api_Entry_124.flat (by decide) 74 74 85 _ 32 Try.underlying74 api_Entry_124.info rfl (by decide) (cap := l0.length) hr0 (fun hA => by
    subst hA
    rcases Nat.eq_zero_or_pos l0.length with h0 | h0
    · exact h0
    · obtain ⟨ad, h, _⟩ := hr0.2.2 h0
      cases h) (c := 1) hcx (by omega) (by omega)
  have HRUN := Aside0.mk hrun
  clear hrun hr0 hcx
  go_enter Try.func124, Try.ntmps124
  go_wp2_with (at_builtin; refine wpList_append_ex _ rfl _ _ _ _ rfl _ _ rfl rfl HRUN.out ?_; rintro v' w' ⟨hR, hB⟩)
  go_ret
  exact ⟨_, rfl, hR, hB⟩
set_option maxHeartbeats 4000000 in
set_option maxRecDepth 100000 in
/-- Insert, of one, into a row with no room, ahead of another. -/
theorem api_Entry_124.at_mid (ad : Addr) (l0 : List S85) (x : List S85) (hx : x.length = 1) (bx : Addr) (i : Nat) (hi : i < l0.length) (w : World) (hr0 : Kd.C k85 w (some ad) l0.length l0) (hcx : Kd.C k85 w (some bx) 1 x) (hl : l0.length < 1000000) :
    Calls Try.prog 124 #[.slice (some ad) l0.length l0.length, .int .i64 (i : Int), .slice (some bx) 1 1] w fun e w' => ∃ v : Value, e = .returned v ∧ Kd.R k85 85 w' w.heap.size (fun _ => True) v (l0.take i ++ x ++ l0.drop i) ∧ Below w.heap.size w w' := by
  have hn : i + (l0.length + 1 - i) = l0.length + 1 := by omega
  have hrun := fun kx => R_zeros_grow (P := Try.prog) k85 api_Entry_124.flat (by decide) 74 3 74 85 _ 32 (z0 := z85) (cap := l0.length) Try.underlying74 (kn := .i64) Try.underlying3 api_Entry_124.info rfl (by decide) (C_take hr0 i (by omega)) (fun _ => by first | rfl | exact ⟨_, _, rfl, rfl, rfl⟩ | exact k85_mk _ _) (l0.length + 1 - i) (by omega) (by omega) (by omega) kx
  rw [hn] at hrun
  have hkk : (l0.length : Int) + 1 - (i : Int) = ((l0.length + 1 - i : Nat) : Int) := by omega
  have hne : ¬ ((i : Int) = (l0.length : Int)) := by omega
  have hl3 : (l0.length : Int) < (l0.length : Int) + 1 := by omega
  have hbe : ((i : Int) == (l0.length : Int)) = false := beq_eq_false_iff_ne.2 hne
  have hbe2 : (i == l0.length) = false := beq_eq_false_iff_ne.2 (by omega)
  have hb1 : (0 : Int) ≤ (i : Int) + 1 := by omega
  have htn : ((i : Int) + 1).toNat = i + 1 := by omega
  have hb3 : (i : Int) ≤ (l0.length : Int) := by omega
  have HRUN := Aside0.mk hrun
  have HC := Aside0.mk hr0
  have HX := Aside0.mk hcx
  clear hrun hr0 hcx
  go_enter Try.func124, Try.ntmps124
  go_wp2_with (first
    | (at_builtin; refine wpList_append_ex _ rfl _ _ _ _ rfl _ _ rfl rfl (HRUN.out .i64) ?_; rintro v' w' ⟨c, rfl, hR, hB, hc⟩; have HR := Aside0.mk hR; have HB := Aside0.mk hB; clear hR hB)
    | (refine wpList_copy_ex _ rfl (.tmp 43) (.tmp 44) 74 74 rfl (.slice (some ⟨w.heap.size, i * 2, none⟩) (l0.length + 1 - i) (c - i)) (.slice (some bx) 1 1) (by rfl) (by rfl) (R_copy_run k85 api_Entry_124.flat (by decide) 74 74 3 85 Try.underlying74 api_Entry_124.sz HR.out (by rw [List.length_append, List.length_take, List.length_replicate]; omega) i (i * 2) (c - i) (by first | rfl | exact (Nat.mul_one _).symm) (Kd.C_below HX.out HB.out) (by omega)) ?_; rintro v' w2 ⟨hR2, hg2⟩))
  have hB2 := HB.out.grown hg2 HB.out.size (fun k h => by cases h; exact Nat.le_refl _)
  rw [ins_one l0 x _ i hx hi] at hR2
  have HR2 := Aside0.mk hR2
  have HB2 := Aside0.mk hB2
  have HD := Aside0.mk (C_drop (Kd.C_below HC.out hB2) i (i * 2) (by first | rfl | exact (Nat.mul_one _).symm) (by omega))
  clear hB2 hg2 hR2
  have hw1 : IntKind.i64.wrap ((i : Int) + 1) = (i : Int) + 1 := by rw [IntKind.wrap_i64]; omega
  have hGi : ¬ (c = i) := by omega
  have hGim : ¬ (c = i + 1) := by omega
  have hGn : ¬ (l0.length = i) := by omega
  have hGc : i + 1 ≤ c := by omega
  have hGl : i + 1 ≤ l0.length + 1 := by omega
  have hGl2 : (i : Int) + 1 ≤ (l0.length : Int) + 1 := by omega
  go_region_law (refine step_copy_ex _ rfl (.tmp 50) (.tmp 53) 74 74 rfl (.slice (some ⟨w.heap.size, (i + 1) * 2, none⟩) (l0.length + 1 - (i + 1)) (c - (i + 1))) (.slice (some (ad.add (i * 2))) (l0.length - i) (l0.length - i)) (by simp [Act.eval, Act.put]) (by simp [Act.eval, Act.put]) (R_copy_run k85 api_Entry_124.flat (by decide) 74 74 3 85 Try.underlying74 api_Entry_124.sz (by first | exact HR2.out | exact Kd.R_drew HR2.out) (ins_len l0 x _ i hx hi) (i + 1) ((i + 1) * 2) (c - (i + 1)) (by first | rfl | exact (Nat.mul_one _).symm) (by first | exact HD.out | exact Kd.C_below HD.out (Below.refl _ _).drew) (by omega)) ?_; rintro v' w3 ⟨hR3, hg3⟩)
  have hB3 := HB2.out.drew.grown hg3 (Nat.le_trans HB2.out.size (by simp)) (fun k h => by cases h; exact Nat.le_refl _)
  rw [ins_two l0 x _ i hx hi] at hR3
  clear hg3
  have HR3 := Aside0.mk hR3
  have HB3 := Aside0.mk hB3
  clear hR3 hB3
  go_wp2
  go_ret
  exact ⟨_, rfl, HR3.out, HB3.out⟩
/-- Insert of one, into a row with no room. -/
theorem api_Entry_124.full (A0 : Option Addr) (l0 : List S85) (x : List S85) (hx : x.length = 1) (bx : Addr) (i : Nat) (hi : i ≤ l0.length) (w : World) (hr0 : Kd.C k85 w A0 l0.length l0) (hcx : Kd.C k85 w (some bx) 1 x) (hl : l0.length < 1000000) :
    Calls Try.prog 124 #[.slice A0 l0.length l0.length, .int .i64 (i : Int), .slice (some bx) 1 1] w fun e w' => ∃ v : Value, e = .returned v ∧ Kd.R k85 85 w' w.heap.size (fun _ => True) v (l0.take i ++ x ++ l0.drop i) ∧ Below w.heap.size w w' := by
  by_cases h : i = l0.length
  · subst h
    rw [List.take_length, List.drop_length, List.append_nil]
    exact api_Entry_124.at_end A0 l0 x hx bx w hr0 hcx hl
  · obtain ⟨ad, rfl, _⟩ := hr0.2.2 (by omega)
    exact api_Entry_124.at_mid ad l0 x hx bx i (by omega) w hr0 hcx hl
end Go.Proofs.Ytpfikmchimlneaa.M3
-- written by a program of this session (wip/myprint.py), over the kit's printer and the session's own contracts
namespace Go.Proofs.Ytpfikmchimlneaa.M3
open Go.RowKit Go.Proofs.YtpfikmchimlneaaW.PrintWords Go.Proofs.YtpfikmchimlneaaW.PrintLast Go.Proofs.YtpfikmchimlneaaW.PrintMore Go.Proofs.YtpfikmchimlneaaW.Mine
attribute [local go_sem] max2_int min2_int max_two min_two max_three min_three max_four min_four max2_str min2_str binOp_gtr_str binOp_leq_str binOp_geq_str   -- for this text's walks alone
set_option linter.unusedVariables false
set_option linter.unusedSimpArgs false
/-! ### leaf_of_1: function 110 -/
def leaf_of_1.f (l0 : List (S85)) (a1 : ByteArray) : Option (Int) := if (l0.length : Int) = 0 then (some (-1)) else (if 0 < (l0.length : Int) then ((strings_Compare.f ((rd_T85 l0 0).f0) a1).bind fun t205 => (some t205)) else (none))
set_option maxHeartbeats 8000000 in
set_option maxRecDepth 100000 in
theorem leaf_of_1.calls (A0 : Option Addr) (c0 : Nat) (l0 : List (S85)) (a1 : ByteArray) (r : Int) (w : World) (hr0 : Kd.C k85 w A0 l0.length l0) (hc0 : l0.length ≤ c0) (h : leaf_of_1.f l0 a1 = some r) :
    Calls Try.prog 110 #[.slice A0 l0.length c0, .string a1] w fun e w' => e = .returned (.int .i64 r) ∧ Drawn0 w w' := by
  (have HR0 := Aside0.mk hr0); (have HC0 := Aside0.mk hc0); (clear hr0 hc0); (have H : (if (l0.length : Int) = 0 then (some (-1)) else (if 0 < (l0.length : Int) then ((strings_Compare.f ((rd_T85 l0 0).f0) a1).bind fun t205 => (some t205)) else (none))) = some r := h); (clear h); (by_cases c3 : (l0.length : Int) = 0)
  · rw [if_pos c3] at H
    (have c3b0 : ((l0.length : Int) == 0) = true := beq_iff_eq.mpr c3); (have c3b1 : ((l0.length : Int) != 0) = false := bne_eq_false_iff_eq.mpr c3); (clear c3); (obtain rfl := Option.some.inj H); (go_enter Try.func110, Try.ntmps110); (go_wp2); (go_ret); (exact ⟨by first | rfl | (simp; done) | (simp [*]; done), by repeat (first | exact Drawn0.refl _ | apply Drawn0.step)⟩)
  · rw [if_neg c3] at H
    (have c3b0 : ((l0.length : Int) == 0) = false := beq_eq_false_iff_ne.mpr c3); (have c3b1 : ((l0.length : Int) != 0) = true := bne_iff_ne.mpr c3); (have c3b2 : ¬ (l0 = []) := fun h_ => c3 (by rw [h_]; rfl)); (by_cases c4 : 0 < (l0.length : Int))
    · rw [if_pos c4] at H
      (have c4b0 : decide (0 < (l0.length : Int)) = true := decide_eq_true c4); (have c4b1 : decide (0 < l0.length) = true := decide_eq_true (by omega)); (clear c4); (replace H := Option.bind_eq_some_iff.mp H); (obtain ⟨t205, A50, H⟩ := H); (replace H : (some t205) = some r := H); (have A5 := Aside0.mk A50); (clear A50); (obtain rfl := Option.some.inj H); (have p204 : 0 ≤ (0 : Int) := (by omega)); (have q204 : 0 < (l0.length : Int) := of_decide_eq_true (by first | (with_reducible assumption) | assumption)); (obtain ⟨ad204, e204, hx204_0, hx204_1⟩ := at_T85 HR0.out 0 p204 q204); (cases e204); (have qi204 : (0 < l0.length) = True := eq_true (by omega)); ((try rw [show ((0 : Int)).toNat = 0 from rfl] at hx204_0)); ((try rw [show 0 * 2 = 0 from rfl] at hx204_0)); ((try rw [Addr.add_zero'] at hx204_0)); ((try rw [show ((0 : Int)).toNat = 0 from rfl] at hx204_1)); ((try rw [show 0 * 2 = 0 from rfl] at hx204_1)); ((try rw [Addr.add_zero'] at hx204_1)); (replace p204 := eq_true p204); (replace q204 := eq_true q204); (go_enter Try.func110, Try.ntmps110)
      (go_wp2_with (first | ((with_reducible refine gate_callee (f := 111) rfl ?_); refine goesL_ (some 13) rfl rfl Try.func111 (by kernel_rfl) rfl #[.string ((rd_T85 l0 0).f0), .string a1] rfl (by (try simp only [List.map_toArray, List.map_cons, List.map_nil]); first | done | rfl | (simp only [List.length_drop, List.length_take]; rfl)) ?_; (with_reducible refine (strings_Compare.calls ((rd_T85 l0 0).f0) a1 t205 _ A5.out).mono ?_); rintro e w' ⟨rfl, ⟨nd, rfl⟩⟩; refine ⟨_, rfl, ?_⟩))); (go_ret); (exact ⟨by first | rfl | (simp; done) | (simp [*]; done), by repeat (first | exact Drawn0.refl _ | apply Drawn0.step)⟩)
    · rw [if_neg c4] at H
      exact absurd H (by simp)
end Go.Proofs.Ytpfikmchimlneaa.M3
-- written by a program of this session (wip/myprint.py), over the kit's printer and the session's own contracts
namespace Go.Proofs.Ytpfikmchimlneaa.M3
open Go.RowKit Go.Proofs.YtpfikmchimlneaaW.PrintWords Go.Proofs.YtpfikmchimlneaaW.PrintLast Go.Proofs.YtpfikmchimlneaaW.PrintMore Go.Proofs.YtpfikmchimlneaaW.Mine
attribute [local go_sem] max2_int min2_int max_two min_two max_three min_three max_four min_four max2_str min2_str binOp_gtr_str binOp_leq_str binOp_geq_str   -- for this text's walks alone
set_option linter.unusedVariables false
set_option linter.unusedSimpArgs false
/-! ### api_Entry_76: function 76 -/
open Go.Proofs.YtpfikmchimlneaaW.Sl
theorem api_Entry_76.info : (Try.prog.info? 85).map (fun i => (i.zero, i.size, i.bytes)) = some (some (.agg #[(.string ⟨#[]⟩), (.string ⟨#[]⟩)]), 2, 32) := by kernel_rfl
def api_Entry_76.total (ls : List (List S85)) : Nat := (ls.map List.length).sum
def api_Entry_76.f (ls : List (List S85)) : Option (List S85) := if api_Entry_76.total ls < 1000000 then some ls.flatten else none
set_option maxHeartbeats 4000000 in
set_option maxRecDepth 100000 in
theorem api_Entry_76.grow (n : Nat) (hn : n < 1000000) (w : World) :
    Calls Try.prog 105 #[.slice none 0 0, .int .i64 (n : Int)] w fun e w' => ∃ v : Value, e = .returned v ∧ Kd.R k85 85 w' w.heap.size (fun _ => True) v [] ∧ Below w.heap.size w w' := by
  by_cases h0 : n = 0
  · subst h0
    go_enter Try.func105, Try.ntmps105
    go_wp2
    go_ret
    exact ⟨_, rfl, Kd.R_nil _ _ _ _ _, Below.refl _ _⟩
  · obtain ⟨i0, hi, hz0, hz1, hz2⟩ := info_parts api_Entry_76.info
    have hrun := Lib.run_append_nil_zeros (P := Try.prog) w 74 3 74 85 i0 _ .i64 .i64 Try.underlying74 Try.underlying3 hi hz0 n (by omega) (by omega) (by omega) (by rw [hz2]; omega)
    have hcap := grownCap_ge w n 0 85
    have hcm := grownCap_le_maxLen w n 0 85 (by unfold maxLen; omega)
    have hsz : (Builtin.zeroCells ((.agg #[(.string ⟨#[]⟩), (.string ⟨#[]⟩)]) : Value).cells n ++ Builtin.zeroCells ((.agg #[(.string ⟨#[]⟩), (.string ⟨#[]⟩)]) : Value).cells (grownCap w n 0 85 - n)).size = grownCap w n 0 85 * 2 := by
      simp only [Array.size_append, size_zeroCells]
      simp [Value.cells]
      omega
    have HRUN := Aside0.mk hrun
    have HSZ := Aside0.mk hsz
    have HCM := Aside0.mk hcm
    generalize grownCap w n 0 85 = cap at *
    have hpos : (0 : Int) < (n : Int) := by omega
    have hpos' : decide ((0 : Int) < (n : Int)) = true := decide_eq_true hpos
    clear hrun hsz hcm hi hz0 hz1 hz2 h0
    go_enter Try.func105, Try.ntmps105
    go_wp2_with (at_builtin; refine Lib.wpList_append_run _ rfl _ _ _ _ rfl _ _ rfl rfl _ _ HRUN.out ?_)
    go_ret
    exact ⟨_, rfl, grown_nil k85 85 _ cap HCM.out HSZ.out, ((Below.refl _ w).drew).alloc (Nat.le_refl _) _⟩
theorem api_Entry_76.total_take (ls : List (List S85)) (k : Nat) (hk : k < ls.length) : api_Entry_76.total (ls.take (k + 1)) = api_Entry_76.total (ls.take k) + (ls.getD k []).length := by
  unfold api_Entry_76.total
  rw [List.take_add_one, List.getElem?_eq_getElem hk, List.map_append, List.sum_append, List.getD_eq_getElem?_getD, List.getElem?_eq_getElem hk]
  simp
theorem api_Entry_76.total_le (ls : List (List S85)) (k : Nat) : api_Entry_76.total (ls.take k) ≤ api_Entry_76.total ls := by
  have h := List.take_append_drop k ls
  have : api_Entry_76.total ls = api_Entry_76.total (ls.take k) + api_Entry_76.total (ls.drop k) := by
    unfold api_Entry_76.total
    rw [← List.sum_append, ← List.map_append, h]
  omega
theorem api_Entry_76.flat_len (ls : List (List S85)) : ls.flatten.length = api_Entry_76.total ls := by simp [api_Entry_76.total, List.length_flatten]
theorem api_Entry_76.flat_take (ls : List (List S85)) (k : Nat) (hk : k < ls.length) : (ls.take (k + 1)).flatten = (ls.take k).flatten ++ ls.getD k [] := by
  rw [List.take_add_one, List.getElem?_eq_getElem hk, List.flatten_append, List.getD_eq_getElem?_getD, List.getElem?_eq_getElem hk]
  simp
set_option maxHeartbeats 8000000 in
set_option maxRecDepth 100000 in
theorem api_Entry_76.calls (A0 : Option Addr) (c0 : Nat) (l0 : List (List S85)) (r : List S85) (w : World) (hr0 : Kd.C (Kd.slice 85 k85) w A0 l0.length l0) (hc0 : l0.length ≤ c0) (h : api_Entry_76.f l0 = some r) :
    Calls Try.prog 76 #[.slice A0 l0.length c0] w fun e w' => ∃ v0_ : Value, e = .returned (v0_) ∧ Kd.R k85 85 w' w.heap.size (fun _ => True) v0_ r ∧ Below w.heap.size w w' := by
  have hT : api_Entry_76.total l0 < 1000000 := by
    unfold api_Entry_76.f at h
    split at h
    · assumption
    · exact absurd h (by simp)
  unfold api_Entry_76.f at h
  rw [if_pos hT] at h
  obtain rfl := Option.some.inj h
  have hn0 : l0.length ≤ 9223372036854775807 := hr0.2.1
  have HT := Aside0.mk hT
  have HR0 := Aside0.mk hr0
  clear h hT hr0
  go_enter Try.func76, Try.ntmps76
  go_wp2
  go_loop [3, 11] (fun s i => ∃ k : Nat, k ≤ l0.length ∧ i = .int .i64 (k : Int) ∧ s = .int .i64 (api_Entry_76.total (l0.take k) : Int)) (fun _ i => l0.length - (intOf i).toNat)
  case atStart => exact ⟨0, Nat.zero_le _, rfl, rfl⟩
  case round =>
    obtain ⟨k, hk, rfl, rfl⟩ := hrel
    have hle := api_Entry_76.total_le l0 k
    have hle1 := api_Entry_76.total_le l0 (k + 1)
    have hT := HT.out
    by_cases hlt : k < l0.length
    · obtain ⟨ad, A', c', rfl, hcell, hlc, _⟩ := C_row HR0.out k hlt
      have hs := api_Entry_76.total_take l0 k hlt
      have HS := Aside0.mk hs
      have b1 : 0 ≤ (api_Entry_76.total (l0.take k) : Int) := by omega
      have b2 : (api_Entry_76.total (l0.take k) : Int) ≤ 1000000 := by omega
      have b3 : ((l0.getD k []).length : Int) ≤ 1000000 := by omega
      have b4 : ¬ ((api_Entry_76.total (l0.take k) : Int) + ((l0.getD k []).length : Int) < 0) := by omega
      generalize api_Entry_76.total (l0.take k) = u at *
      generalize (l0.getD k []).length = v at *
      clear hs hle hle1 hT
      go_wp2
      go_round
      case rel => exact ⟨k + 1, by omega, by go_num, by rw [HS.out]; go_num⟩
      case measure => simp [intOf]; omega
    · obtain rfl : k = l0.length := by omega
      rw [List.take_length] at *
      have b1 : 0 ≤ (api_Entry_76.total l0 : Int) := by omega
      clear hle hle1 hT
      go_wp2_with (go_at_call 105; refine (api_Entry_76.grow (api_Entry_76.total l0) HT.out _).mono ?_; rintro e w1 ⟨v, rfl, hR, hB⟩)
      have HB := Aside0.mk hB
      have HR := Aside0.mk hR
      clear hB hR
      go_loopw [6, 27] (fun s i wr => ∃ k : Nat, k ≤ l0.length ∧ i = .int .i64 (k : Int) ∧ Aside0 (Kd.R k85 85 wr w.heap.size (fun _ => True) s (l0.take k).flatten) ∧ Aside0 (Below w.heap.size w wr)) (fun _ i _ => l0.length - (intOf i).toNat)
      case atStart => exact ⟨0, Nat.zero_le _, rfl, HR, HB⟩
      case round =>
        obtain ⟨k, hk, rfl, HR, HB⟩ := hrel
        by_cases hlt : k < l0.length
        · obtain ⟨ad, A', c', hA, hcell, hlc, hC⟩ := C_row (Kd.C_below HR0.out HB.out) k hlt
          subst hA
          have hf := api_Entry_76.flat_take l0 k hlt
          have e := api_Entry_76.flat_len (l0.take (k + 1))
          have h1 := api_Entry_76.total_le l0 (k + 1)
          have hR6 := HR.out
          clear HR
          generalize l0.getD k [] = row at *
          generalize (l0.take k).flatten = acc at *
          rw [hf, List.length_append] at e
          have hlen : (acc.length + row.length) * 32 ≤ 140737488355328 := by
            have := HT.out
            omega
          have HC := Aside0.mk hC
          have HF := Aside0.mk hf
          have HL := Aside0.mk hlen
          obtain ⟨A6, c6, rfl⟩ := Kd.R_slice hR6
          have HR := Aside0.mk hR6
          clear hf hlen hC e h1 hR6
          go_wp2_with (at_builtin; refine Kd.R_append_rows k85 (Rr := k85.K wr) w.heap.size rfl _ _ 74 85 _ 32 rfl Try.underlying74 api_Entry_76.info rfl (by decide) (by decide) _ acc row _ _ _ (fun _ => True) (fun _ => False) rfl rfl HR.out HC.out (fun _ _ h => h) (fun _ h => h.elim) (fun _ _ => trivial) HB.out HB.out.size HL.out ?_; intro v1 w1 hR1 hB1 _ _; have HR1 := Aside0.mk hR1; have HB1 := Aside0.mk hB1; clear hR1 hB1)
          go_roundw
          case rel => exact ⟨k + 1, by omega, by go_num, by rw [HF.out]; exact HR1, HB1⟩
          case measure => simp [intOf]; omega
        · obtain rfl : k = l0.length := by omega
          rw [List.take_length] at HR
          go_wp2
          go_ret
          exact ⟨_, rfl, HR.out, HB.out⟩
end Go.Proofs.Ytpfikmchimlneaa.M3
-- written by a program of this session (wip/myprint.py), over the kit's printer and the session's own contracts
namespace Go.Proofs.Ytpfikmchimlneaa.M3
open Go.RowKit Go.Proofs.YtpfikmchimlneaaW.PrintWords Go.Proofs.YtpfikmchimlneaaW.PrintLast Go.Proofs.YtpfikmchimlneaaW.PrintMore Go.Proofs.YtpfikmchimlneaaW.Mine
attribute [local go_sem] max2_int min2_int max_two min_two max_three min_three max_four min_four max2_str min2_str binOp_gtr_str binOp_leq_str binOp_geq_str   -- for this text's walks alone
set_option linter.unusedVariables false
set_option linter.unusedSimpArgs false
/-! ### api_Entry_74: function 74 -/
-- over leaf_Fold_1, api_Entry_95
def api_Entry_74.ren : Go.Shelf.Ren := ⟨fun | 10 => 74 | 6 => 104 | n => n, fun | 22 => 59 | 23 => 74 | 25 => 88 | n => n, fun n => n⟩
theorem api_Entry_74.lay : SlLaysH.n10 Try.prog api_Entry_74.ren := { mixed := by kernel_rfl, f6 := ⟨Try.f104.name, by decide, Try.func104.trans (congrArg some (by kernel_rfl))⟩, f10 := ⟨Try.f74.name, by decide, Try.func74.trans (congrArg some (by kernel_rfl))⟩, t0 := Try.underlying0, a0 := Try.isAgg0, z0 := Try.sizeOf0, v0 := Try.zeroValue0, t3 := Try.underlying3, a3 := Try.isAgg3, z3 := Try.sizeOf3, v3 := Try.zeroValue3, t4 := Try.underlying4, a4 := Try.isAgg4, z4 := Try.sizeOf4, v4 := Try.zeroValue4, t22 := Try.underlying59, a22 := Try.isAgg59, z22 := Try.sizeOf59, v22 := Try.zeroValue59, a23 := Try.isAgg74, z23 := Try.sizeOf74, t25 := Try.underlying88, a25 := Try.isAgg88, z25 := Try.sizeOf88, v25 := Try.zeroValue88 }
theorem api_Entry_74.pred (h : Go.Proofs.YtpfikmchimlneaaW.Nest.Hd) (W : World) : FnGives Try.prog 75 #[] #[Go.Proofs.YtpfikmchimlneaaW.Nest.hv h] (.bool (decide (h.2.1 = 0))) W := by
  show Calls Try.prog 75 #[.slice h.1 h.2.1 h.2.2] W _
  by_cases h0 : h.2.1 = 0
  · rw [h0]
    go_enter Try.func75, Try.ntmps75
    go_wp2
    go_ret
    exact ⟨rfl, 0, rfl⟩
  · have h1 : decide (h.2.1 = 0) = false := decide_eq_false h0
    have h2 : ((h.2.1 : Int) == 0) = false := by simpa using h0
    go_enter Try.func75, Try.ntmps75
    go_wp2
    go_ret
    exact ⟨by simp [h0], 0, rfl⟩
/-- the rows that are empty are taken out -/
theorem api_Entry_74.del {w : World} {base : Nat} {v : Value} {xs : List (List S85)} (h : Go.Proofs.YtpfikmchimlneaaW.Nest.NR k85 85 74 w base v xs) (hp : 0 < xs.length) :
    Calls Try.prog 74 #[v, .func (.func 75) #[] #[]] w fun e w' => ∃ v', e = .returned v' ∧ Go.Proofs.YtpfikmchimlneaaW.Nest.NR k85 85 74 w' base v' (xs.filter fun x => !(decide (x.length = 0))) ∧ Below base w w' := by
  obtain ⟨hs, hR, hI⟩ := h
  have hl := hI.1
  obtain ⟨g, c, rfl, hbg, _⟩ := Kd.R_form hR (by omega)
  obtain ⟨hn, hnc, hcm, hH, hb, cur, hheap, hsize, htake⟩ := Go.Proofs.YtpfikmchimlneaaW.Nest.R_holds hR
  have eg : ∀ args w, (callFunc 75 args).run Try.prog w = .ok (.enter 75 args) w := Go.Proofs.enters_of Try.func75 (by kernel_rfl) rfl
  have hcon := AnyE.slices_DeleteFunc api_Entry_74.lay Go.Proofs.YtpfikmchimlneaaW.Nest.hv (fun _ => rfl) (fun h : Go.Proofs.YtpfikmchimlneaaW.Nest.Hd => decide (h.2.1 = 0)) 75 #[] eg ((none, 0, 0) : Go.Proofs.YtpfikmchimlneaaW.Nest.Hd) Try.zeroValue74 g 0 c hs.toArray w (fun W x _ => api_Entry_74.pred x W) (fun _ _ _ x _ => api_Entry_74.pred x _) hH (by simp; unfold maxLen at hcm; omega) (by simpa using hnc)
  simp only [List.size_toArray] at hcon
  refine (show Calls Try.prog 74 _ w _ from hcon).mono ?_
  rintro e w' ⟨rfl, q, rfl⟩
  have hfl := List.length_filter_le (fun x : Go.Proofs.YtpfikmchimlneaaW.Nest.Hd => !(decide (x.2.1 = 0))) hs
  have hys : (hs.filter (fun x => !(decide (x.2.1 = 0))) ++ List.replicate (hs.length - (hs.filter (fun x => !(decide (x.2.1 = 0)))).length) ((none, 0, 0) : Go.Proofs.YtpfikmchimlneaaW.Nest.Hd)).length = hs.length := by
    rw [List.length_append, List.length_replicate]
    omega
  obtain ⟨h1, h2⟩ := Go.Proofs.YtpfikmchimlneaaW.Nest.R_put hR q _ hys (hs.filter (fun x : Go.Proofs.YtpfikmchimlneaaW.Nest.Hd => !(decide (x.2.1 = 0)))).length (by rw [hys]; exact hfl)
  rw [List.take_left] at h1
  refine ⟨_, rfl, ⟨_, h1, (hI.filter _ _ fun i hh x e1 e2 => ?_).grown api_Entry_95.ne hheap h2⟩, (Below.refl base w).grown h2 (by omega) (fun k hk => by cases hk; exact hb)⟩
  obtain ⟨A, cc, he⟩ := Kd.R_slice (hI.2 i hh x e1 e2)
  have : hh.2.1 = x.length := by
    have := congrArg (fun v => match v with | Value.slice _ n _ => n | _ => 0) he
    exact this
  rw [this]
end Go.Proofs.Ytpfikmchimlneaa.M3
-- written by a program of this session (wip/myprint.py), over the kit's printer and the session's own contracts
namespace Go.Proofs.Ytpfikmchimlneaa.M3
open Go.RowKit Go.Proofs.YtpfikmchimlneaaW.PrintWords Go.Proofs.YtpfikmchimlneaaW.PrintLast Go.Proofs.YtpfikmchimlneaaW.PrintMore Go.Proofs.YtpfikmchimlneaaW.Mine
attribute [local go_sem] max2_int min2_int max_two min_two max_three min_three max_four min_four max2_str min2_str binOp_gtr_str binOp_leq_str binOp_geq_str   -- for this text's walks alone
set_option linter.unusedVariables false
set_option linter.unusedSimpArgs false
/-! ### leaf_Entries: function 38 -/
def leaf_Entries.f (l0 : List (List (S85))) : Option ((List (S85))) := (api_Entry_76.f l0).bind fun t242 => (some t242)
set_option maxHeartbeats 8000000 in
set_option maxRecDepth 100000 in
theorem leaf_Entries.calls (A0 : Option Addr) (c0 : Nat) (l0 : List (List (S85))) (r : List (S85)) (w : World) (hr0 : Kd.C (Kd.slice 85 k85) w A0 l0.length l0) (hc0 : l0.length ≤ c0) (h : leaf_Entries.f l0 = some r) :
    Calls Try.prog 38 #[.slice A0 l0.length c0] w fun e w' => ∃ v0_ : Value, e = .returned (v0_) ∧ Kd.R k85 85 w' w.heap.size (fun _ => True) v0_ r ∧ Below w.heap.size w w' := by
  (have HR0 := Aside0.mk hr0); (have HC0 := Aside0.mk hc0); (clear hr0 hc0); (have HB := Aside0.mk (Below.refl w.heap.size w)); (have H : ((api_Entry_76.f l0).bind fun t242 => (some t242)) = some r := h); (clear h); (replace H := Option.bind_eq_some_iff.mp H); (obtain ⟨t242, A20, H⟩ := H); (replace H : (some t242) = some r := H); (have A2 := Aside0.mk A20); (clear A20); (obtain rfl := Option.some.inj H); (go_enter Try.func38, Try.ntmps38)
  (go_wp2_with (first | ((with_reducible refine gate_callee (f := 76) rfl ?_); refine goesL_ (some 4) rfl rfl Try.func76 (by kernel_rfl) rfl #[.slice A0 l0.length c0] rfl (by (try simp only [List.map_toArray, List.map_cons, List.map_nil]); first | done | rfl | (simp only [List.length_drop, List.length_take]; rfl)) ?_; (with_reducible refine (api_Entry_76.calls _ _ l0 t242 _ ?side1 ?side2 A2.out).mono ?_); (case side1 => repeat (first | exact HR0.out | (with_reducible refine Kd.C_alloc ?_ _) | (with_reducible refine Kd.C_drewN ?_ _) | (with_reducible refine Kd.C_drew ?_))); (case side2 => exact HC0.out); rintro e w3 ⟨v243, rfl, ho0, hb⟩; refine ⟨_, rfl, ?_⟩; have n0_ := Aside0.mk (Kd.R_lower ho0 (below_size (by repeat (first | (with_reducible first | exact HB.out | apply y1_ | apply y2_ | apply y3_) | exact HB.out)))); have n1_ := Aside0.mk (below_step (by repeat (first | (with_reducible first | exact HB.out | apply y1_ | apply y2_ | apply y3_) | exact HB.out)) hb); clear HB; have HO244 := n0_; have HB := n1_; clear n0_ n1_; (try clear hb); (try clear hb2); (try clear hk); (try clear hi); (try clear ho0)))); (go_ret)
  exact ⟨_, by first | rfl | (simp [errW_none, errW_some] <;> rfl) | (simp [*, errW_none, errW_some] <;> rfl), by (with_reducible repeat (first | apply Kd.R_alloc | apply Kd.R_drewN | apply Kd.R_drew)); exact HO244.out, by repeat (first | (with_reducible first | exact HB.out | apply y1_ | apply y2_ | apply y3_) | exact HB.out)⟩
end Go.Proofs.Ytpfikmchimlneaa.M3
-- written by a program of this session (wip/myprint.py), over the kit's printer and the session's own contracts
namespace Go.Proofs.Ytpfikmchimlneaa.M3
open Go.RowKit Go.Proofs.YtpfikmchimlneaaW.PrintWords Go.Proofs.YtpfikmchimlneaaW.PrintLast Go.Proofs.YtpfikmchimlneaaW.PrintMore Go.Proofs.YtpfikmchimlneaaW.Mine
attribute [local go_sem] max2_int min2_int max_two min_two max_three min_three max_four min_four max2_str min2_str binOp_gtr_str binOp_leq_str binOp_geq_str   -- for this text's walks alone
set_option linter.unusedVariables false
set_option linter.unusedSimpArgs false
/-! ### block_Right: function 81 -/
def block_Right.f (k : Nat) (l0 : List (S85)) (a1 : Int) : Option (Bool) := if (l0.length : Int) ≥ 1 then (if (l0.length : Int) ≤ a1 then ((fold_Rises.f k l0).bind fun t247 => (some t247)) else (some false)) else (some false)
theorem block_Right.mono : ∀ a0 a1 k, LeO (block_Right.f k a0 a1) (block_Right.f (k + 1) a0 a1) := by
  (intro a0 a1 k); (unfold block_Right.f)
  repeat' first
      | (with_reducible exact fold_Rises.mono _ _)
      | (with_reducible exact LeO.refl _)
      | (with_reducible exact LeO.none _)
      | (with_reducible refine LeO.ite ?_ ?_)
      | (with_reducible refine LeO.bind ?_ (fun _ => ?_))
      | exact fold_Rises.mono _ _
      | exact LeO.none _
      | refine LeO.ite ?_ ?_
      | refine LeO.bind ?_ (fun _ => ?_)
set_option maxHeartbeats 8000000 in
set_option maxRecDepth 100000 in
theorem block_Right.calls (k : Nat) (A0 : Option Addr) (c0 : Nat) (l0 : List (S85)) (a1 : Int) (r : Bool) (w : World) (hr0 : Kd.C k85 w A0 l0.length l0) (hc0 : l0.length ≤ c0) (h : block_Right.f k l0 a1 = some r) :
    Calls Try.prog 81 #[.slice A0 l0.length c0, .int .i64 a1] w fun e w' => e = .returned (.bool r) ∧ Drawn0 w w' := by
  (have HR0 := Aside0.mk hr0); (have HC0 := Aside0.mk hc0); (clear hr0 hc0); (have H : (if (l0.length : Int) ≥ 1 then (if (l0.length : Int) ≤ a1 then ((fold_Rises.f k l0).bind fun t247 => (some t247)) else (some false)) else (some false)) = some r := h); (clear h); (by_cases c3 : (l0.length : Int) ≥ 1)
  · rw [if_pos c3] at H
    (have c3b0 : decide (1 ≤ (l0.length : Int)) = true := decide_eq_true c3); (have c3b1 : decide (1 ≤ l0.length) = true := decide_eq_true (by omega)); (clear c3); (by_cases c4 : (l0.length : Int) ≤ a1)
    · rw [if_pos c4] at H
      (have c4b0 : decide ((l0.length : Int) ≤ a1) = true := decide_eq_true c4); (clear c4); (replace H := Option.bind_eq_some_iff.mp H); (obtain ⟨t247, A50, H⟩ := H); (replace H : (some t247) = some r := H); (have A5 := Aside0.mk A50); (clear A50); (obtain rfl := Option.some.inj H); (go_enter Try.func81, Try.ntmps81); (go_wp2_with (first | (go_at_call 82; (with_reducible refine (fold_Rises.calls k _ _ l0 t247 _ ?side1 ?side2 A5.out).mono ?_); (case side1 => repeat (first | exact HR0.out | (with_reducible refine Kd.C_alloc ?_ _) | (with_reducible refine Kd.C_drewN ?_ _) | (with_reducible refine Kd.C_drew ?_))); (case side2 => exact HC0.out); rintro e w' ⟨rfl, ⟨nd, rfl⟩⟩))); (go_ret); (exact ⟨by first | rfl | (simp; done) | (simp [*]; done), by repeat (first | exact Drawn0.refl _ | apply Drawn0.step)⟩)
    · rw [if_neg c4] at H
      (have c4b0 : decide ((l0.length : Int) ≤ a1) = false := decide_eq_false c4); (clear c4); (obtain rfl := Option.some.inj H); (go_enter Try.func81, Try.ntmps81); (go_wp2); (go_ret); (exact ⟨by first | rfl | (simp; done) | (simp [*]; done), by repeat (first | exact Drawn0.refl _ | apply Drawn0.step)⟩)
  · rw [if_neg c3] at H
    (have c3b0 : decide (1 ≤ (l0.length : Int)) = false := decide_eq_false c3); (have c3b1 : decide (1 ≤ l0.length) = false := decide_eq_false (by omega)); (clear c3); (obtain rfl := Option.some.inj H); (go_enter Try.func81, Try.ntmps81); (go_wp2); (go_ret); (exact ⟨by first | rfl | (simp; done) | (simp [*]; done), by repeat (first | exact Drawn0.refl _ | apply Drawn0.step)⟩)
end Go.Proofs.Ytpfikmchimlneaa.M3
-- written by a program of this session (wip/myprint.py), over the kit's printer and the session's own contracts
namespace Go.Proofs.Ytpfikmchimlneaa.M3
open Go.RowKit Go.Proofs.YtpfikmchimlneaaW.PrintWords Go.Proofs.YtpfikmchimlneaaW.PrintLast Go.Proofs.YtpfikmchimlneaaW.PrintMore Go.Proofs.YtpfikmchimlneaaW.Mine
attribute [local go_sem] max2_int min2_int max_two min_two max_three min_three max_four min_four max2_str min2_str binOp_gtr_str binOp_leq_str binOp_geq_str   -- for this text's walks alone
set_option linter.unusedVariables false
set_option linter.unusedSimpArgs false
/-! ### leaf_Count: function 45 -/
def leaf_Count.l0 : Nat → Int → List (List (S85)) → Int → Int → Option (Int)
  | 0, _, _, _, _ => none
  | k + 1, x3, x6, x7, x8 => if x8 < x7 then (if 0 ≤ x8 then (if x8 < (x6.length : Int) then (leaf_Count.l0 k (wrap64 (x3 + ((rd_L2 x6 x8).length : Int))) x6 x7 (wrap64 (x8 + 1))) else (none)) else (none)) else (some x3)
def leaf_Count.f (k : Nat) (l0 : List (List (S85))) : Option (Int) := leaf_Count.l0 k 0 l0 (l0.length : Int) 0
theorem leaf_Count.mono_l : ∀ k, (∀ y0 y1 y2 y3, LeO (leaf_Count.l0 k y0 y1 y2 y3) (leaf_Count.l0 (k + 1) y0 y1 y2 y3))
  | 0 => fun _ _ _ _ r h => by simp [leaf_Count.l0] at h
  | k + 1 => by
    have ih0 := leaf_Count.mono_l k
    · intro y0 y1 y2 y3
      unfold leaf_Count.l0
      repeat' first
      | (with_reducible exact ih0 _ _ _ _)
      | (with_reducible exact LeO.refl _)
      | (with_reducible exact LeO.none _)
      | (with_reducible refine LeO.ite ?_ ?_)
      | (with_reducible refine LeO.bind ?_ (fun _ => ?_))
      | exact ih0 _ _ _ _
      | exact LeO.none _
      | refine LeO.ite ?_ ?_
      | refine LeO.bind ?_ (fun _ => ?_)
theorem leaf_Count.mono : ∀ a0 k, LeO (leaf_Count.f k a0) (leaf_Count.f (k + 1) a0) := by
  (intro a0 k); (have ih0 := leaf_Count.mono_l k); (unfold leaf_Count.f)
  repeat' first
      | (with_reducible exact ih0 _ _ _ _)
      | (with_reducible exact LeO.refl _)
      | (with_reducible exact LeO.none _)
      | (with_reducible refine LeO.ite ?_ ?_)
      | (with_reducible refine LeO.bind ?_ (fun _ => ?_))
      | exact ih0 _ _ _ _
      | exact LeO.none _
      | refine LeO.ite ?_ ?_
      | refine LeO.bind ?_ (fun _ => ?_)
set_option maxHeartbeats 8000000 in
set_option maxRecDepth 100000 in
theorem leaf_Count.calls (k : Nat) (A0 : Option Addr) (c0 : Nat) (l0 : List (List (S85))) (r : Int) (w : World) (hr0 : Kd.C (Kd.slice 85 k85) w A0 l0.length l0) (hc0 : l0.length ≤ c0) (h : leaf_Count.f k l0 = some r) :
    Calls Try.prog 45 #[.slice A0 l0.length c0] w fun e w' => e = .returned (.int .i64 r) ∧ Drawn0 w w' := by
  (have HR0 := Aside0.mk hr0); (have HC0 := Aside0.mk hc0); (clear hr0 hc0); (have H : (leaf_Count.l0 k 0 l0 (l0.length : Int) 0) = some r := h); (clear h); (have H' := Aside0.mk H); (clear H); (go_enter Try.func45, Try.ntmps45); (go_wp2); (go_loopg [3, 8] k (fun kq v3 v8 w' => ∃ (x3_1 : Int) (x8_1 : Int), v3 = .int .i64 x3_1 ∧ v8 = .int .i64 x8_1 ∧ Aside0 (leaf_Count.l0 kq x3_1 l0 (l0.length : Int) x8_1 = some r) ∧ Aside0 (kq ≤ k) ∧ Drawn0 w w'))
  case atStart => exact ⟨(0), (0), (by first | rfl | (simp; done) | (simp [*]; done)), (by first | rfl | (simp; done) | (simp [*]; done)), H', ⟨Nat.le_refl _⟩, by repeat (first | exact Drawn0.refl _ | apply Drawn0.step)⟩
  case round =>
    (clear H'); (obtain ⟨x3_1, x8_1, rfl, rfl, HA, HK1, ⟨m1, rfl⟩⟩ := hrel)
    cases gk with
    | zero => exact absurd HA.out (by simp [leaf_Count.l0])
    | succ k1 =>
      (have H := HA.out); (clear HA); (simp only [leaf_Count.l0] at H); (by_cases c2 : x8_1 < (l0.length : Int))
      · rw [if_pos c2] at H
        (have c2b0 : decide (x8_1 < (l0.length : Int)) = true := decide_eq_true c2); (clear c2); (by_cases c3 : 0 ≤ x8_1)
        · rw [if_pos c3] at H
          (have c3b0 : decide (0 ≤ x8_1) = true := decide_eq_true c3); (clear c3); (by_cases c4 : x8_1 < (l0.length : Int))
          · rw [if_pos c4] at H
            (have c4b0 : decide (x8_1 < (l0.length : Int)) = true := decide_eq_true c4); (clear c4); (have H' := Aside0.mk H); (clear H); (have p259 : 0 ≤ (x8_1 : Int) := of_decide_eq_true (by first | (with_reducible assumption) | assumption)); (have q259 : x8_1 < (l0.length : Int) := of_decide_eq_true (by first | (with_reducible assumption) | assumption)); (obtain ⟨ad259, A259_0, c259_0, e259, hx259_0, hl259_0, hi259_0⟩ := at_L2 HR0.out x8_1 p259 q259); (cases e259); (have HR259_0 := Aside0.mk hi259_0); (have HC259_0 := Aside0.mk hl259_0); (clear hi259_0 hl259_0); (replace p259 := eq_true p259); (replace q259 := eq_true q259); (go_wp2); (go_roundg k1)
            case measure => have := HK1.out; omega
            case rel => exact ⟨(wrap64 (x3_1 + ((rd_L2 l0 x8_1).length : Int))), (wrap64 (x8_1 + 1)), (by first | rfl | (simp; done) | (simp [*]; done)), (by first | rfl | (simp; done) | (simp [*]; done)), H', ⟨by have := HK1.out; omega⟩, by repeat (first | exact Drawn0.refl _ | apply Drawn0.step)⟩
          · rw [if_neg c4] at H
            exact absurd H (by simp)
        · rw [if_neg c3] at H
          exact absurd H (by simp)
      · rw [if_neg c2] at H
        (have c2b0 : decide (x8_1 < (l0.length : Int)) = false := decide_eq_false c2); (clear c2); (obtain rfl := Option.some.inj H); (go_wp2); (go_ret); (exact ⟨by first | rfl | (simp; done) | (simp [*]; done), by repeat (first | exact Drawn0.refl _ | apply Drawn0.step)⟩)
end Go.Proofs.Ytpfikmchimlneaa.M3
-- written by a program of this session (wip/myprint.py), over the kit's printer and the session's own contracts
namespace Go.Proofs.Ytpfikmchimlneaa.M3
open Go.RowKit Go.Proofs.YtpfikmchimlneaaW.PrintWords Go.Proofs.YtpfikmchimlneaaW.PrintLast Go.Proofs.YtpfikmchimlneaaW.PrintMore Go.Proofs.YtpfikmchimlneaaW.Mine
attribute [local go_sem] max2_int min2_int max_two min_two max_three min_three max_four min_four max2_str min2_str binOp_gtr_str binOp_leq_str binOp_geq_str   -- for this text's walks alone
set_option linter.unusedVariables false
set_option linter.unusedSimpArgs false
theorem eqA85 (d : Nat) (w : World) (x0 y0 : ByteArray) (x1 y1 : ByteArray) :
    (Op.equalIn (d + 2) 85 (.agg #[.string x0, .string x1]) (.agg #[.string y0, .string y1])).run Try.prog w = .ok (x0.toList == y0.toList && (x1.toList == y1.toList)) w := by
  refine eqA_of Try.underlying85 (by kernel_rfl) ?_
  refine eqf_cons (by rfl) (by go_simp; rfl) (by go_simp; rfl) (by go_simp) ?_
  exact eqf_last (by rfl) (by go_simp; rfl) (by go_simp; rfl) (by go_simp)
end Go.Proofs.Ytpfikmchimlneaa.M3
-- written by a program of this session (wip/myprint.py), over the kit's printer and the session's own contracts
namespace Go.Proofs.Ytpfikmchimlneaa.M3
open Go.RowKit Go.Proofs.YtpfikmchimlneaaW.PrintWords Go.Proofs.YtpfikmchimlneaaW.PrintLast Go.Proofs.YtpfikmchimlneaaW.PrintMore Go.Proofs.YtpfikmchimlneaaW.Mine
attribute [local go_sem] max2_int min2_int max_two min_two max_three min_three max_four min_four max2_str min2_str binOp_gtr_str binOp_leq_str binOp_geq_str   -- for this text's walks alone
set_option linter.unusedVariables false
set_option linter.unusedSimpArgs false
/-! ### catchmentref04_Point: function 67 -/
def catchmentref04_Point.f (a0_0 : Int) (a0_1 : Int) (a0_2 : ByteArray) (a0_3 : ByteArray) (a0_4 : ByteArray) (a0_5 : Int) : Option (Bool) := if a0_0 ≥ 1 then (some (decide (a0_0 ≤ 3))) else (some false)
set_option maxHeartbeats 8000000 in
set_option maxRecDepth 100000 in
theorem catchmentref04_Point.calls (a0_0 : Int) (a0_1 : Int) (a0_2 : ByteArray) (a0_3 : ByteArray) (a0_4 : ByteArray) (a0_5 : Int) (r : Bool) (w : World) (h : catchmentref04_Point.f a0_0 a0_1 a0_2 a0_3 a0_4 a0_5 = some r) :
    Calls Try.prog 67 #[.agg #[.int .u8 a0_0, .int .i64 a0_1, .string a0_2, .string a0_3, .string a0_4, .int .u64 a0_5]] w fun e w' => e = .returned (.bool r) ∧ Below w.heap.size w w' := by
  (have hu69 := Try.underlying69); (have HB := Aside0.mk (Below.refl w.heap.size w)); (have H : (if a0_0 ≥ 1 then (some (decide (a0_0 ≤ 3))) else (some false)) = some r := h); (clear h); (by_cases c2 : a0_0 ≥ 1)
  · rw [if_pos c2] at H
    (have c2b0 : decide (1 ≤ a0_0) = true := decide_eq_true c2); (clear c2); (obtain rfl := Option.some.inj H); (go_enter Try.func67, Try.ntmps67)
    go_wp2_with (first | ((with_reducible refine gate_dst (N := 1) rfl ?_); refine box_event ?hg (N := 1) ?hd (cs := #[.int .u8 a0_0, .int .i64 a0_1, .string a0_2, .string a0_3, .string a0_4, .int .u64 a0_5]) (t := 69) ?hr ?_; (case hd => rfl); (case hg => rfl); (case hr => first | (go_simp; done) | (go_simp; rfl)); intro gb283 hg w3 hbox hb; have n0_ := Aside0.mk (below_step (by repeat (first | (with_reducible first | exact HB.out | apply y1_ | apply y2_ | apply y3_) | exact HB.out)) hb); have n1_ := Aside0.mk (hbox); have n2_ := Aside0.mk ((by rw [hg]; exact (below_size (by repeat (first | (with_reducible first | exact HB.out | apply y1_ | apply y2_ | apply y3_) | exact HB.out))) : w.heap.size ≤ gb283)); have n3_ := Aside0.mk ((by rw [hg]; exact (below_size (by repeat (first | (with_reducible first | exact HB.out | apply y1_ | apply y2_ | apply y3_) | exact HB.out))) : w.heap.size ≤ gb283)); clear HB; have HB := n0_; have BK283 := n1_; have GW283 := n2_; have GE283 := n3_; clear n0_ n1_ n2_ n3_; clear hb hbox hg; have hcz4_0 : w3.cell? ⟨gb283, 0, none⟩ = some (.int .u8 a0_0) := (blk_cell BK283.out 0).trans rfl; have hcz4_1 : w3.cell? ⟨gb283, 1, none⟩ = some (.int .i64 a0_1) := (blk_cell BK283.out 1).trans rfl; have hcz4_2 : w3.cell? ⟨gb283, 2, none⟩ = some (.string a0_2) := (blk_cell BK283.out 2).trans rfl; have hcz4_3 : w3.cell? ⟨gb283, 3, none⟩ = some (.string a0_3) := (blk_cell BK283.out 3).trans rfl; have hcz4_4 : w3.cell? ⟨gb283, 4, none⟩ = some (.string a0_4) := (blk_cell BK283.out 4).trans rfl; have hcz4_5 : w3.cell? ⟨gb283, 5, none⟩ = some (.int .u64 a0_5) := (blk_cell BK283.out 5).trans rfl; have hfz4_0 := blk_frozen BK283.out 0; have hfz4_1 := blk_frozen BK283.out 1; have hfz4_2 := blk_frozen BK283.out 2; have hfz4_3 := blk_frozen BK283.out 3; have hfz4_4 := blk_frozen BK283.out 4; have hfz4_5 := blk_frozen BK283.out 5))
    (go_ret); (exact ⟨by first | rfl | (simp [errW_none, errW_some] <;> rfl) | (simp [*, errW_none, errW_some] <;> rfl), by repeat (first | (with_reducible first | exact HB.out | apply y1_ | apply y2_ | apply y3_ | refine y4_ ?_ GE283.out) | exact HB.out)⟩)
  · rw [if_neg c2] at H
    (have c2b0 : decide (1 ≤ a0_0) = false := decide_eq_false c2); (clear c2); (obtain rfl := Option.some.inj H); (go_enter Try.func67, Try.ntmps67)
    go_wp2_with (first | ((with_reducible refine gate_dst (N := 1) rfl ?_); refine box_event ?hg (N := 1) ?hd (cs := #[.int .u8 a0_0, .int .i64 a0_1, .string a0_2, .string a0_3, .string a0_4, .int .u64 a0_5]) (t := 69) ?hr ?_; (case hd => rfl); (case hg => rfl); (case hr => first | (go_simp; done) | (go_simp; rfl)); intro gb283 hg w5 hbox hb; have n0_ := Aside0.mk (below_step (by repeat (first | (with_reducible first | exact HB.out | apply y1_ | apply y2_ | apply y3_) | exact HB.out)) hb); have n1_ := Aside0.mk (hbox); have n2_ := Aside0.mk ((by rw [hg]; exact (below_size (by repeat (first | (with_reducible first | exact HB.out | apply y1_ | apply y2_ | apply y3_) | exact HB.out))) : w.heap.size ≤ gb283)); have n3_ := Aside0.mk ((by rw [hg]; exact (below_size (by repeat (first | (with_reducible first | exact HB.out | apply y1_ | apply y2_ | apply y3_) | exact HB.out))) : w.heap.size ≤ gb283)); clear HB; have HB := n0_; have BK283 := n1_; have GW283 := n2_; have GE283 := n3_; clear n0_ n1_ n2_ n3_; clear hb hbox hg; have hcz6_0 : w5.cell? ⟨gb283, 0, none⟩ = some (.int .u8 a0_0) := (blk_cell BK283.out 0).trans rfl; have hcz6_1 : w5.cell? ⟨gb283, 1, none⟩ = some (.int .i64 a0_1) := (blk_cell BK283.out 1).trans rfl; have hcz6_2 : w5.cell? ⟨gb283, 2, none⟩ = some (.string a0_2) := (blk_cell BK283.out 2).trans rfl; have hcz6_3 : w5.cell? ⟨gb283, 3, none⟩ = some (.string a0_3) := (blk_cell BK283.out 3).trans rfl; have hcz6_4 : w5.cell? ⟨gb283, 4, none⟩ = some (.string a0_4) := (blk_cell BK283.out 4).trans rfl; have hcz6_5 : w5.cell? ⟨gb283, 5, none⟩ = some (.int .u64 a0_5) := (blk_cell BK283.out 5).trans rfl; have hfz6_0 := blk_frozen BK283.out 0; have hfz6_1 := blk_frozen BK283.out 1; have hfz6_2 := blk_frozen BK283.out 2; have hfz6_3 := blk_frozen BK283.out 3; have hfz6_4 := blk_frozen BK283.out 4; have hfz6_5 := blk_frozen BK283.out 5))
    (go_ret); (exact ⟨by first | rfl | (simp [errW_none, errW_some] <;> rfl) | (simp [*, errW_none, errW_some] <;> rfl), by repeat (first | (with_reducible first | exact HB.out | apply y1_ | apply y2_ | apply y3_ | refine y4_ ?_ GE283.out) | exact HB.out)⟩)
end Go.Proofs.Ytpfikmchimlneaa.M3
-- written by a program of this session (wip/myprint.py), over the kit's printer and the session's own contracts
namespace Go.Proofs.Ytpfikmchimlneaa.M3
open Go.RowKit Go.Proofs.YtpfikmchimlneaaW.PrintWords Go.Proofs.YtpfikmchimlneaaW.PrintLast Go.Proofs.YtpfikmchimlneaaW.PrintMore Go.Proofs.YtpfikmchimlneaaW.Mine
attribute [local go_sem] max2_int min2_int max_two min_two max_three min_three max_four min_four max2_str min2_str binOp_gtr_str binOp_leq_str binOp_geq_str   -- for this text's walks alone
set_option linter.unusedVariables false
set_option linter.unusedSimpArgs false
/-! ### catchmentref05_Find: function 43 -/
def catchmentref05_Find.l0 : Nat → List (S85) → ByteArray → Int → Option (ByteArray × Bool)
  | 0, _, _, _ => none
  | k + 1, x0, x1, x6 => if x6 < (x0.length : Int) then (if 0 ≤ x6 then (if ((rd_T85 x0 x6).f0).toList = x1.toList then (some ((rd_T85 x0 x6).f1, true)) else (catchmentref05_Find.l0 k x0 x1 (wrap64 (x6 + 1)))) else (none)) else (some ((⟨#[]⟩ : ByteArray), false))
def catchmentref05_Find.f (k : Nat) (l0 : List (S85)) (a1 : ByteArray) : Option (ByteArray × Bool) := catchmentref05_Find.l0 k l0 a1 0
theorem catchmentref05_Find.mono_l : ∀ k, (∀ y0 y1 y2, LeO (catchmentref05_Find.l0 k y0 y1 y2) (catchmentref05_Find.l0 (k + 1) y0 y1 y2))
  | 0 => fun _ _ _ r h => by simp [catchmentref05_Find.l0] at h
  | k + 1 => by
    have ih0 := catchmentref05_Find.mono_l k
    · intro y0 y1 y2
      unfold catchmentref05_Find.l0
      repeat' first
      | (with_reducible exact ih0 _ _ _)
      | (with_reducible exact LeO.refl _)
      | (with_reducible exact LeO.none _)
      | (with_reducible refine LeO.ite ?_ ?_)
      | (with_reducible refine LeO.bind ?_ (fun _ => ?_))
      | exact ih0 _ _ _
      | exact LeO.none _
      | refine LeO.ite ?_ ?_
      | refine LeO.bind ?_ (fun _ => ?_)
theorem catchmentref05_Find.mono : ∀ a0 a1 k, LeO (catchmentref05_Find.f k a0 a1) (catchmentref05_Find.f (k + 1) a0 a1) := by
  (intro a0 a1 k); (have ih0 := catchmentref05_Find.mono_l k); (unfold catchmentref05_Find.f)
  repeat' first
      | (with_reducible exact ih0 _ _ _)
      | (with_reducible exact LeO.refl _)
      | (with_reducible exact LeO.none _)
      | (with_reducible refine LeO.ite ?_ ?_)
      | (with_reducible refine LeO.bind ?_ (fun _ => ?_))
      | exact ih0 _ _ _
      | exact LeO.none _
      | refine LeO.ite ?_ ?_
      | refine LeO.bind ?_ (fun _ => ?_)
set_option maxHeartbeats 8000000 in
set_option maxRecDepth 100000 in
theorem catchmentref05_Find.calls (k : Nat) (A0 : Option Addr) (c0 : Nat) (l0 : List (S85)) (a1 : ByteArray) (r1 : ByteArray) (r2 : Bool) (w : World) (hr0 : Kd.C k85 w A0 l0.length l0) (hc0 : l0.length ≤ c0) (h : catchmentref05_Find.f k l0 a1 = some (r1, r2)) :
    Calls Try.prog 43 #[.slice A0 l0.length c0, .string a1] w fun e w' => e = .returned (.tuple #[.string r1, .bool r2]) ∧ Drawn0 w w' := by
  (have HR0 := Aside0.mk hr0); (have HC0 := Aside0.mk hc0); (clear hr0 hc0); (have H : (catchmentref05_Find.l0 k l0 a1 0) = some (r1, r2) := h); (clear h); (have H' := Aside0.mk H); (clear H); (go_enter Try.func43, Try.ntmps43); (go_wp2); (go_loopg [6] k (fun kq v6 w' => ∃ (x6_1 : Int), v6 = .int .i64 x6_1 ∧ Aside0 (catchmentref05_Find.l0 kq l0 a1 x6_1 = some (r1, r2)) ∧ Aside0 (kq ≤ k) ∧ Drawn0 w w'))
  case atStart => exact ⟨(0), (by first | rfl | (simp; done) | (simp [*]; done)), H', ⟨Nat.le_refl _⟩, by repeat (first | exact Drawn0.refl _ | apply Drawn0.step)⟩
  case round =>
    (clear H'); (try clear p2); (obtain ⟨x6_1, rfl, HA, HK1, ⟨m1, rfl⟩⟩ := hrel)
    cases gk with
    | zero => exact absurd HA.out (by simp [catchmentref05_Find.l0])
    | succ k1 =>
      (have H := HA.out); (clear HA); (simp only [catchmentref05_Find.l0] at H); (by_cases c3 : x6_1 < (l0.length : Int))
      · rw [if_pos c3] at H
        (have c3b0 : decide (x6_1 < (l0.length : Int)) = true := decide_eq_true c3); (clear c3); (by_cases c4 : 0 ≤ x6_1)
        · rw [if_pos c4] at H
          (have c4b0 : decide (0 ≤ x6_1) = true := decide_eq_true c4); (clear c4); (by_cases c5 : ((rd_T85 l0 x6_1).f0).toList = a1.toList)
          · rw [if_pos c5] at H
            (have c5b0 : (((rd_T85 l0 x6_1).f0).toList == a1.toList) = true := beq_iff_eq.mpr c5); (have c5b1 : (((rd_T85 l0 x6_1).f0).toList != a1.toList) = false := bne_eq_false_iff_eq.mpr c5); (clear c5); (simp only [Option.some.injEq, Prod.mk.injEq] at H); (obtain ⟨rfl, rfl⟩ := H); (have p284 : 0 ≤ (x6_1 : Int) := of_decide_eq_true (by first | (with_reducible assumption) | assumption)); (have q284 : x6_1 < (l0.length : Int) := of_decide_eq_true (by first | (with_reducible assumption) | assumption)); (obtain ⟨ad284, e284, hx284_0, hx284_1⟩ := at_T85 HR0.out x6_1 p284 q284); (cases e284); (replace p284 := eq_true p284); (replace q284 := eq_true q284); (have p285 : 0 ≤ (x6_1 : Int) := of_decide_eq_true (by first | (with_reducible assumption) | assumption)); (have q285 : x6_1 < (l0.length : Int) := of_decide_eq_true (by first | (with_reducible assumption) | assumption)); (obtain ⟨ad285, e285, hx285_0, hx285_1⟩ := at_T85 HR0.out x6_1 p285 q285); (obtain rfl : ad284 = ad285 := (by injection e285)); (replace p285 := eq_true p285); (replace q285 := eq_true q285); (go_wp2); (go_ret2)
            exact ⟨by first | rfl | (simp; done) | (simp [*]; done), by repeat (first | exact Drawn0.refl _ | apply Drawn0.step)⟩
          · rw [if_neg c5] at H
            (have c5b0 : (((rd_T85 l0 x6_1).f0).toList == a1.toList) = false := beq_eq_false_iff_ne.mpr c5); (have c5b1 : (((rd_T85 l0 x6_1).f0).toList != a1.toList) = true := bne_iff_ne.mpr c5); (have H' := Aside0.mk H); (clear H); (have p284 : 0 ≤ (x6_1 : Int) := of_decide_eq_true (by first | (with_reducible assumption) | assumption)); (have q284 : x6_1 < (l0.length : Int) := of_decide_eq_true (by first | (with_reducible assumption) | assumption)); (obtain ⟨ad284, e284, hx284_0, hx284_1⟩ := at_T85 HR0.out x6_1 p284 q284); (cases e284); (replace p284 := eq_true p284); (replace q284 := eq_true q284); (go_wp2); (go_roundg k1)
            case measure => have := HK1.out; omega
            case rel => exact ⟨(wrap64 (x6_1 + 1)), (by first | rfl | (simp; done) | (simp [*]; done)), H', ⟨by have := HK1.out; omega⟩, by repeat (first | exact Drawn0.refl _ | apply Drawn0.step)⟩
        · rw [if_neg c4] at H
          exact absurd H (by simp)
      · rw [if_neg c3] at H
        (have c3b0 : decide (x6_1 < (l0.length : Int)) = false := decide_eq_false c3); (clear c3); (simp only [Option.some.injEq, Prod.mk.injEq] at H); (obtain ⟨rfl, rfl⟩ := H); (go_wp2); (go_ret2); (exact ⟨by first | rfl | (simp; done) | (simp [*]; done), by repeat (first | exact Drawn0.refl _ | apply Drawn0.step)⟩)
end Go.Proofs.Ytpfikmchimlneaa.M3
-- written by a program of this session (wip/myprint.py), over the kit's printer and the session's own contracts
namespace Go.Proofs.Ytpfikmchimlneaa.M3
open Go.RowKit Go.Proofs.YtpfikmchimlneaaW.PrintWords Go.Proofs.YtpfikmchimlneaaW.PrintLast Go.Proofs.YtpfikmchimlneaaW.PrintMore Go.Proofs.YtpfikmchimlneaaW.Mine
attribute [local go_sem] max2_int min2_int max_two min_two max_three min_three max_four min_four max2_str min2_str binOp_gtr_str binOp_leq_str binOp_geq_str   -- for this text's walks alone
set_option linter.unusedVariables false
set_option linter.unusedSimpArgs false
/-! ### catchmentref03_Put: function 135 -/
def catchmentref03_Put.l0 : Nat → Int → ByteArray → Int → Option (ByteArray)
  | 0, _, _, _ => none
  | k + 1, x0, x3, x4 => if x4 < 8 then ((some (([(Int.tmod x0 256) % 256] : List Int) : List Int)).bind fun y346 => (if (strOfNums y346).size + x3.size ≤ 9223372036854775807 then (catchmentref03_Put.l0 k (IntKind.u64.wrap (Int.tdiv x0 256)) ((strOfNums y346) ++ x3) (wrap64 (x4 + 1))) else (none))) else (some x3)
def catchmentref03_Put.f (k : Nat) (a0 : Int) : Option (ByteArray) := catchmentref03_Put.l0 k a0 (⟨#[]⟩ : ByteArray) 0
theorem catchmentref03_Put.mono_l : ∀ k, (∀ y0 y1 y2, LeO (catchmentref03_Put.l0 k y0 y1 y2) (catchmentref03_Put.l0 (k + 1) y0 y1 y2))
  | 0 => fun _ _ _ r h => by simp [catchmentref03_Put.l0] at h
  | k + 1 => by
    have ih0 := catchmentref03_Put.mono_l k
    · intro y0 y1 y2
      unfold catchmentref03_Put.l0
      repeat' first
      | (with_reducible exact ih0 _ _ _)
      | (with_reducible exact LeO.refl _)
      | (with_reducible exact LeO.none _)
      | (with_reducible refine LeO.ite ?_ ?_)
      | (with_reducible refine LeO.bind ?_ (fun _ => ?_))
      | exact ih0 _ _ _
      | exact LeO.none _
      | refine LeO.ite ?_ ?_
      | refine LeO.bind ?_ (fun _ => ?_)
theorem catchmentref03_Put.mono : ∀ a0 k, LeO (catchmentref03_Put.f k a0) (catchmentref03_Put.f (k + 1) a0) := by
  (intro a0 k); (have ih0 := catchmentref03_Put.mono_l k); (unfold catchmentref03_Put.f)
  repeat' first
      | (with_reducible exact ih0 _ _ _)
      | (with_reducible exact LeO.refl _)
      | (with_reducible exact LeO.none _)
      | (with_reducible refine LeO.ite ?_ ?_)
      | (with_reducible refine LeO.bind ?_ (fun _ => ?_))
      | exact ih0 _ _ _
      | exact LeO.none _
      | refine LeO.ite ?_ ?_
      | refine LeO.bind ?_ (fun _ => ?_)
set_option maxHeartbeats 8000000 in
set_option maxRecDepth 100000 in
theorem catchmentref03_Put.calls (k : Nat) (a0 : Int) (r : ByteArray) (w : World) (h : catchmentref03_Put.f k a0 = some r) :
    Calls Try.prog 135 #[.int .u64 a0] w fun e w' => e = .returned (.string r) ∧ Below w.heap.size w w' := by
  (have HB := Aside0.mk (Below.refl w.heap.size w)); (have H : (catchmentref03_Put.l0 k a0 (⟨#[]⟩ : ByteArray) 0) = some r := h); (clear h); (have H' := Aside0.mk H); (clear H); (go_enter Try.func135, Try.ntmps135); (go_wp2); (go_loopg [0, 3, 4] k (fun kq v0 v3 v4 w' => ∃ (x0_1 : Int) (x3_1 : ByteArray) (x4_1 : Int), v0 = .int .u64 x0_1 ∧ v3 = .string x3_1 ∧ v4 = .int .i64 x4_1 ∧ Aside0 (catchmentref03_Put.l0 kq x0_1 x3_1 x4_1 = some r) ∧ Aside0 (kq ≤ k) ∧ Aside0 (Below w.heap.size w w')))
  case atStart => exact ⟨(a0), ((⟨#[]⟩ : ByteArray)), (0), (by first | rfl | (simp; done) | (simp [*]; done)), (by first | rfl | (simp; done) | (simp [*]; done)), (by first | rfl | (simp; done) | (simp [*]; done)), H', ⟨Nat.le_refl _⟩, ⟨by repeat (first | (with_reducible first | exact HB.out | apply y1_ | apply y2_ | apply y3_) | exact HB.out)⟩⟩
  case round =>
    (clear H'); (try clear c1); (obtain ⟨x0_1, x3_1, x4_1, rfl, rfl, rfl, HA, HK1, HB⟩ := hrel)
    cases gk with
    | zero => exact absurd HA.out (by simp [catchmentref03_Put.l0])
    | succ k1 =>
      (have H := HA.out); (clear HA); (simp only [catchmentref03_Put.l0] at H); (by_cases c2 : x4_1 < 8)
      · rw [if_pos c2] at H
        (have c2b0 : decide (x4_1 < 8) = true := decide_eq_true c2); (clear c2); (obtain ⟨y346, hy346⟩ : ∃ y_ : List Int, y_ = (([(Int.tmod x0_1 256) % 256] : List Int)) := ⟨_, rfl⟩); (replace H : (if (strOfNums y346).size + x3_1.size ≤ 9223372036854775807 then (catchmentref03_Put.l0 k1 (IntKind.u64.wrap (Int.tdiv x0_1 256)) ((strOfNums y346) ++ x3_1) (wrap64 (x4_1 + 1))) else (none)) = some r := by first | (rw [hy346]; with_reducible exact H) | (have H2_ := (Option.bind_some _ _).symm.trans H; rw [hy346]; with_reducible exact H2_) | (have H2_ := (Option.bind_some _ _).symm.trans H; with_reducible exact H2_) | with_reducible exact H | (rw [hy346]; exact H) | exact H); (have Ny346 := Aside0.mk hy346); (clear hy346); (by_cases c3 : (strOfNums y346).size + x3_1.size ≤ 9223372036854775807)
        · rw [if_pos c3] at H
          (have c3b0 := eq_true c3); (have c3b1 : decide ((strOfNums y346).size + x3_1.size ≤ 9223372036854775807) = true := decide_eq_true c3); (try have c3b2 : (9223372036854775807 < (strOfNums y346).size + x3_1.size) = False := eq_false (Nat.not_lt.2 c3)); (have H' := Aside0.mk H); (clear H)
          go_wp2_with (first | ((with_reducible refine gate_dst (N := 12) rfl ?_); refine Kd.R_lit (Kd.int .u8) _ 5 ?hg (N := 12) ?hd (xs := ([(Int.tmod x0_1 256) % 256] : List Int)) (inner := [.int .u8 ((Int.tmod x0_1 256) % 256)]) (ok := fun _ => True) (okp := fun _ => True) ?hr ?hp (fun _ hk => hk) trivial (Below.refl _ _) (Nat.le_refl _) (by simp) ?_; (case hd => rfl); (case hg => rfl); (case hr => first | (go_simp; done) | (go_simp; rfl)); (case hp => exact (Reps.one (show Kd.M (Kd.int .u8) _ _ _ ((Int.tmod x0_1 256) % 256) [.int .u8 ((Int.tmod x0_1 256) % 256)] from rfl) (Reps.none _ _))); intro v347 w4 ho5 hb hg_ hnew_; clear hg_ hnew_; (first | rw [← Ny346.out] at ho5 | (simp only [Int.reduceToNat] at ho5; rw [← Ny346.out] at ho5)); have n0_ := Aside0.mk (Kd.R_lower ho5 (below_size (by repeat (first | (with_reducible first | exact HB.out | apply y1_ | apply y2_ | apply y3_) | exact HB.out)))); have n1_ := Aside0.mk (below_step (by repeat (first | (with_reducible first | exact HB.out | apply y1_ | apply y2_ | apply y3_) | exact HB.out)) hb); clear HB; have HO348 := n0_; have HB := n1_; clear n0_ n1_; clear hb ho5; have hcv6 := own_string (P := Try.prog) Try.underlying183 Try.underlying5 Try.underlying9 (Kd.own_of_R HO348.out)))
          go_roundg k1
          case measure => have := HK1.out; omega
          case rel => exact ⟨(IntKind.u64.wrap (Int.tdiv x0_1 256)), ((strOfNums y346) ++ x3_1), (wrap64 (x4_1 + 1)), (by first | rfl | (simp; done) | (simp [*]; done)), (by first | rfl | (simp; done) | (simp [*]; done)), (by first | rfl | (simp; done) | (simp [*]; done)), H', ⟨by have := HK1.out; omega⟩, ⟨by repeat (first | (with_reducible first | exact HB.out | apply y1_ | apply y2_ | apply y3_) | exact HB.out)⟩⟩
        · rw [if_neg c3] at H
          exact absurd H (by simp)
      · rw [if_neg c2] at H
        (have c2b0 : decide (x4_1 < 8) = false := decide_eq_false c2); (clear c2); (obtain rfl := Option.some.inj H); (go_wp2); (go_ret); (exact ⟨by first | rfl | (simp [errW_none, errW_some] <;> rfl) | (simp [*, errW_none, errW_some] <;> rfl), by repeat (first | (with_reducible first | exact HB.out | apply y1_ | apply y2_ | apply y3_) | exact HB.out)⟩)
end Go.Proofs.Ytpfikmchimlneaa.M3
-- written by a program of this session (wip/myprint.py), over the kit's printer and the session's own contracts
namespace Go.Proofs.Ytpfikmchimlneaa.M3
open Go.RowKit Go.Proofs.YtpfikmchimlneaaW.PrintWords Go.Proofs.YtpfikmchimlneaaW.PrintLast Go.Proofs.YtpfikmchimlneaaW.PrintMore Go.Proofs.YtpfikmchimlneaaW.Mine
attribute [local go_sem] max2_int min2_int max_two min_two max_three min_three max_four min_four max2_str min2_str binOp_gtr_str binOp_leq_str binOp_geq_str   -- for this text's walks alone
set_option linter.unusedVariables false
set_option linter.unusedSimpArgs false
/-! ### catchmentref03_Take: function 136 -/
def catchmentref03_Take.l0 : Nat → ByteArray → Int → Int → Option (Int × Bool)
  | 0, _, _, _ => none
  | k + 1, x0, x4, x5 => if x5 < 8 then (if 0 ≤ x5 then (if x5 < (x0.size : Int) then (catchmentref03_Take.l0 k x0 (IntKind.u64.wrap ((IntKind.u64.wrap (x4 * 256)) + (IntKind.u64.wrap (bt x0 x5)))) (wrap64 (x5 + 1))) else (none)) else (none)) else (some (x4, true))
def catchmentref03_Take.f (k : Nat) (a0 : ByteArray) : Option (Int × Bool) := if (a0.size : Int) = 8 then (catchmentref03_Take.l0 k a0 0 0) else (some (0, false))
theorem catchmentref03_Take.mono_l : ∀ k, (∀ y0 y1 y2, LeO (catchmentref03_Take.l0 k y0 y1 y2) (catchmentref03_Take.l0 (k + 1) y0 y1 y2))
  | 0 => fun _ _ _ r h => by simp [catchmentref03_Take.l0] at h
  | k + 1 => by
    have ih0 := catchmentref03_Take.mono_l k
    · intro y0 y1 y2
      unfold catchmentref03_Take.l0
      repeat' first
      | (with_reducible exact ih0 _ _ _)
      | (with_reducible exact LeO.refl _)
      | (with_reducible exact LeO.none _)
      | (with_reducible refine LeO.ite ?_ ?_)
      | (with_reducible refine LeO.bind ?_ (fun _ => ?_))
      | exact ih0 _ _ _
      | exact LeO.none _
      | refine LeO.ite ?_ ?_
      | refine LeO.bind ?_ (fun _ => ?_)
theorem catchmentref03_Take.mono : ∀ a0 k, LeO (catchmentref03_Take.f k a0) (catchmentref03_Take.f (k + 1) a0) := by
  (intro a0 k); (have ih0 := catchmentref03_Take.mono_l k); (unfold catchmentref03_Take.f)
  repeat' first
      | (with_reducible exact ih0 _ _ _)
      | (with_reducible exact LeO.refl _)
      | (with_reducible exact LeO.none _)
      | (with_reducible refine LeO.ite ?_ ?_)
      | (with_reducible refine LeO.bind ?_ (fun _ => ?_))
      | exact ih0 _ _ _
      | exact LeO.none _
      | refine LeO.ite ?_ ?_
      | refine LeO.bind ?_ (fun _ => ?_)
set_option maxHeartbeats 8000000 in
set_option maxRecDepth 100000 in
theorem catchmentref03_Take.calls (k : Nat) (a0 : ByteArray) (r1 : Int) (r2 : Bool) (w : World) (h : catchmentref03_Take.f k a0 = some (r1, r2)) :
    Calls Try.prog 136 #[.string a0] w fun e w' => e = .returned (.tuple #[.int .u64 r1, .bool r2]) ∧ Drawn0 w w' := by
  (have H : (if (a0.size : Int) = 8 then (catchmentref03_Take.l0 k a0 0 0) else (some (0, false))) = some (r1, r2) := h); (clear h); (by_cases c2 : (a0.size : Int) = 8)
  · rw [if_pos c2] at H
    (have c2b0 : ((a0.size : Int) == 8) = true := beq_iff_eq.mpr c2); (have c2b1 : ((a0.size : Int) != 8) = false := bne_eq_false_iff_eq.mpr c2); (clear c2); (have H' := Aside0.mk H); (clear H); (go_enter Try.func136, Try.ntmps136); (go_wp2); (go_loopg [4, 5] k (fun kq v4 v5 w' => ∃ (x4_1 : Int) (x5_1 : Int), v4 = .int .u64 x4_1 ∧ v5 = .int .i64 x5_1 ∧ Aside0 (catchmentref03_Take.l0 kq a0 x4_1 x5_1 = some (r1, r2)) ∧ Aside0 (kq ≤ k) ∧ Drawn0 w w'))
    case atStart => exact ⟨(0), (0), (by first | rfl | (simp; done) | (simp [*]; done)), (by first | rfl | (simp; done) | (simp [*]; done)), H', ⟨Nat.le_refl _⟩, by repeat (first | exact Drawn0.refl _ | apply Drawn0.step)⟩
    case round =>
      (clear H'); (try clear c1); (try clear c2); (try clear c2b0); (try clear c2b1); (try clear p2); (obtain ⟨x4_1, x5_1, rfl, rfl, HA, HK1, ⟨m1, rfl⟩⟩ := hrel)
      cases gk with
      | zero => exact absurd HA.out (by simp [catchmentref03_Take.l0])
      | succ k1 =>
        (have H := HA.out); (clear HA); (simp only [catchmentref03_Take.l0] at H); (by_cases c3 : x5_1 < 8)
        · rw [if_pos c3] at H
          (have c3b0 : decide (x5_1 < 8) = true := decide_eq_true c3); (clear c3); (by_cases c4 : 0 ≤ x5_1)
          · rw [if_pos c4] at H
            (have c4b0 : decide (0 ≤ x5_1) = true := decide_eq_true c4); (clear c4); (by_cases c5 : x5_1 < (a0.size : Int))
            · rw [if_pos c5] at H
              (have c5b0 : decide (x5_1 < (a0.size : Int)) = true := decide_eq_true c5); (clear c5); (have H' := Aside0.mk H); (clear H); (have p6 : 0 ≤ (x5_1 : Int) := of_decide_eq_true (by first | (with_reducible assumption) | assumption)); (have q6 : x5_1 < (a0.size : Int) := of_decide_eq_true (by first | (with_reducible assumption) | assumption)); (have hx6 := bt_at a0 x5_1); (replace p6 := eq_true p6); (replace q6 := eq_true q6); (go_wp2); (go_roundg k1)
              case measure => have := HK1.out; omega
              case rel => exact ⟨(IntKind.u64.wrap ((IntKind.u64.wrap (x4_1 * 256)) + (IntKind.u64.wrap (bt a0 x5_1)))), (wrap64 (x5_1 + 1)), (by first | rfl | (simp; done) | (simp [*]; done)), (by first | rfl | (simp; done) | (simp [*]; done)), H', ⟨by have := HK1.out; omega⟩, by repeat (first | exact Drawn0.refl _ | apply Drawn0.step)⟩
            · rw [if_neg c5] at H
              exact absurd H (by simp)
          · rw [if_neg c4] at H
            exact absurd H (by simp)
        · rw [if_neg c3] at H
          (have c3b0 : decide (x5_1 < 8) = false := decide_eq_false c3); (clear c3); (simp only [Option.some.injEq, Prod.mk.injEq] at H); (obtain ⟨rfl, rfl⟩ := H); (go_wp2); (go_ret2); (exact ⟨by first | rfl | (simp; done) | (simp [*]; done), by repeat (first | exact Drawn0.refl _ | apply Drawn0.step)⟩)
  · rw [if_neg c2] at H
    (have c2b0 : ((a0.size : Int) == 8) = false := beq_eq_false_iff_ne.mpr c2); (have c2b1 : ((a0.size : Int) != 8) = true := bne_iff_ne.mpr c2); (simp only [Option.some.injEq, Prod.mk.injEq] at H); (obtain ⟨rfl, rfl⟩ := H); (go_enter Try.func136, Try.ntmps136); (go_wp2); (go_ret2); (exact ⟨by first | rfl | (simp; done) | (simp [*]; done), by repeat (first | exact Drawn0.refl _ | apply Drawn0.step)⟩)
end Go.Proofs.Ytpfikmchimlneaa.M3
-- written by a program of this session (wip/myprint.py), over the kit's printer and the session's own contracts
namespace Go.Proofs.Ytpfikmchimlneaa.M3
open Go.RowKit Go.Proofs.YtpfikmchimlneaaW.PrintWords Go.Proofs.YtpfikmchimlneaaW.PrintLast Go.Proofs.YtpfikmchimlneaaW.PrintMore Go.Proofs.YtpfikmchimlneaaW.Mine
attribute [local go_sem] max2_int min2_int max_two min_two max_three min_three max_four min_four max2_str min2_str binOp_gtr_str binOp_leq_str binOp_geq_str   -- for this text's walks alone
set_option linter.unusedVariables false
set_option linter.unusedSimpArgs false
/-! ### catchmentref03_Add: function 126 -/
def catchmentref03_Add.f (k : Nat) (a0 : ByteArray) (a1 : Bool) (a2 : Int) : Option (ByteArray) := if a1 = true then ((catchmentref03_Take.f k a0).bind fun bt350 => (if bt350.2 = true then ((catchmentref03_Put.f k (IntKind.u64.wrap (bt350.1 + a2))).bind fun t352 => (some t352)) else (some a0))) else ((catchmentref03_Put.f k a2).bind fun t349 => (some t349))
theorem catchmentref03_Add.mono : ∀ a0 a1 a2 k, LeO (catchmentref03_Add.f k a0 a1 a2) (catchmentref03_Add.f (k + 1) a0 a1 a2) := by
  (intro a0 a1 a2 k); (unfold catchmentref03_Add.f)
  repeat' first
      | (with_reducible exact catchmentref03_Put.mono _ _)
      | (with_reducible exact catchmentref03_Take.mono _ _)
      | (with_reducible exact LeO.refl _)
      | (with_reducible exact LeO.none _)
      | (with_reducible refine LeO.ite ?_ ?_)
      | (with_reducible refine LeO.bind ?_ (fun _ => ?_))
      | exact catchmentref03_Put.mono _ _
      | exact catchmentref03_Take.mono _ _
      | exact LeO.none _
      | refine LeO.ite ?_ ?_
      | refine LeO.bind ?_ (fun _ => ?_)
set_option maxHeartbeats 8000000 in
set_option maxRecDepth 100000 in
theorem catchmentref03_Add.calls (k : Nat) (a0 : ByteArray) (a1 : Bool) (a2 : Int) (r : ByteArray) (w : World) (h : catchmentref03_Add.f k a0 a1 a2 = some r) :
    Calls Try.prog 126 #[.string a0, .bool a1, .int .u64 a2] w fun e w' => e = .returned (.string r) ∧ Below w.heap.size w w' := by
  (have HB := Aside0.mk (Below.refl w.heap.size w)); (have H : (if a1 = true then ((catchmentref03_Take.f k a0).bind fun bt350 => (if bt350.2 = true then ((catchmentref03_Put.f k (IntKind.u64.wrap (bt350.1 + a2))).bind fun t352 => (some t352)) else (some a0))) else ((catchmentref03_Put.f k a2).bind fun t349 => (some t349))) = some r := h); (clear h); (by_cases c4 : a1 = true)
  · subst c4
    (have H1 : ((catchmentref03_Take.f k a0).bind fun bt350 => (if bt350.2 = true then ((catchmentref03_Put.f k (IntKind.u64.wrap (bt350.1 + a2))).bind fun t352 => (some t352)) else (some a0))) = some r := by rw [if_pos rfl] at H; exact H); (clear H); (have H := H1); (clear H1); (replace H := Option.bind_eq_some_iff.mp H); (obtain ⟨⟨t350, t351⟩, A50, H⟩ := H); (replace H : (if t351 = true then ((catchmentref03_Put.f k (IntKind.u64.wrap (t350 + a2))).bind fun t352 => (some t352)) else (some a0)) = some r := H); (have A5 := Aside0.mk A50); (clear A50); (by_cases c6 : t351 = true)
    · subst c6
      (have H1 : ((catchmentref03_Put.f k (IntKind.u64.wrap (t350 + a2))).bind fun t352 => (some t352)) = some r := by rw [if_pos rfl] at H; exact H); (clear H); (have H := H1); (clear H1); (replace H := Option.bind_eq_some_iff.mp H); (obtain ⟨t352, A70, H⟩ := H); (replace H : (some t352) = some r := H); (have A7 := Aside0.mk A70); (clear A70); (obtain rfl := Option.some.inj H); (go_enter Try.func126, Try.ntmps126)
      (go_wp2_with (first | ((with_reducible refine gate_callee (f := 136) rfl ?_); refine goesL_ (some 15) rfl rfl Try.func136 (by kernel_rfl) rfl #[.string a0] rfl (by (try simp only [List.map_toArray, List.map_cons, List.map_nil]); first | done | rfl | (simp only [List.length_drop, List.length_take]; rfl)) ?_; (with_reducible refine (catchmentref03_Take.calls k a0 t350 true _ A5.out).mono ?_); rintro e w' ⟨rfl, ⟨nd, rfl⟩⟩; refine ⟨_, rfl, ?_⟩) | ((with_reducible refine gate_callee (f := 135) rfl ?_); refine goesL_ (some 22) rfl rfl Try.func135 (by kernel_rfl) rfl #[.int .u64 (IntKind.u64.wrap (t350 + a2))] rfl (by (try simp only [List.map_toArray, List.map_cons, List.map_nil]); first | done | rfl | (simp only [List.length_drop, List.length_take]; rfl)) ?_; (with_reducible refine (catchmentref03_Put.calls k (IntKind.u64.wrap (t350 + a2)) t352 _ A7.out).mono ?_); rintro e w8 ⟨rfl, hb⟩; refine ⟨_, rfl, ?_⟩; have n0_ := Aside0.mk (below_step (by repeat (first | (with_reducible first | exact HB.out | apply y1_ | apply y2_ | apply y3_) | exact HB.out)) hb); clear HB; have HB := n0_; clear n0_; (try clear hb); (try clear hb2); (try clear hk); (try clear hi)))); (go_ret)
      exact ⟨by first | rfl | (simp [errW_none, errW_some] <;> rfl) | (simp [*, errW_none, errW_some] <;> rfl), by repeat (first | (with_reducible first | exact HB.out | apply y1_ | apply y2_ | apply y3_) | exact HB.out)⟩
    · replace c6 := Bool.eq_false_iff.mpr c6
      (subst c6); (have H1 : (some a0) = some r := by rw [if_neg (show ¬ (false = true) by decide)] at H; exact H); (clear H); (have H := H1); (clear H1); (obtain rfl := Option.some.inj H); (go_enter Try.func126, Try.ntmps126); (go_wp2_with (first | ((with_reducible refine gate_callee (f := 136) rfl ?_); refine goesL_ (some 15) rfl rfl Try.func136 (by kernel_rfl) rfl #[.string a0] rfl (by (try simp only [List.map_toArray, List.map_cons, List.map_nil]); first | done | rfl | (simp only [List.length_drop, List.length_take]; rfl)) ?_; (with_reducible refine (catchmentref03_Take.calls k a0 t350 false _ A5.out).mono ?_); rintro e w' ⟨rfl, ⟨nd, rfl⟩⟩; refine ⟨_, rfl, ?_⟩))); (go_ret); (exact ⟨by first | rfl | (simp [errW_none, errW_some] <;> rfl) | (simp [*, errW_none, errW_some] <;> rfl), by repeat (first | (with_reducible first | exact HB.out | apply y1_ | apply y2_ | apply y3_) | exact HB.out)⟩)
  · replace c4 := Bool.eq_false_iff.mpr c4
    (subst c4); (have H1 : ((catchmentref03_Put.f k a2).bind fun t349 => (some t349)) = some r := by rw [if_neg (show ¬ (false = true) by decide)] at H; exact H); (clear H); (have H := H1); (clear H1); (replace H := Option.bind_eq_some_iff.mp H); (obtain ⟨t349, A90, H⟩ := H); (replace H : (some t349) = some r := H); (have A9 := Aside0.mk A90); (clear A90); (obtain rfl := Option.some.inj H); (go_enter Try.func126, Try.ntmps126); (go_wp2_with (first | ((with_reducible refine gate_callee (f := 135) rfl ?_); refine goesL_ (some 12) rfl rfl Try.func135 (by kernel_rfl) rfl #[.int .u64 a2] rfl (by (try simp only [List.map_toArray, List.map_cons, List.map_nil]); first | done | rfl | (simp only [List.length_drop, List.length_take]; rfl)) ?_; (with_reducible refine (catchmentref03_Put.calls k a2 t349 _ A9.out).mono ?_); rintro e w10 ⟨rfl, hb⟩; refine ⟨_, rfl, ?_⟩; have n0_ := Aside0.mk (below_step (by repeat (first | (with_reducible first | exact HB.out | apply y1_ | apply y2_ | apply y3_) | exact HB.out)) hb); clear HB; have HB := n0_; clear n0_; (try clear hb); (try clear hb2); (try clear hk); (try clear hi)))); (go_ret)
    exact ⟨by first | rfl | (simp [errW_none, errW_some] <;> rfl) | (simp [*, errW_none, errW_some] <;> rfl), by repeat (first | (with_reducible first | exact HB.out | apply y1_ | apply y2_ | apply y3_) | exact HB.out)⟩
end Go.Proofs.Ytpfikmchimlneaa.M3
-- written by a program of this session (wip/myprint.py), over the kit's printer and the session's own contracts
namespace Go.Proofs.Ytpfikmchimlneaa.M3
open Go.RowKit Go.Proofs.YtpfikmchimlneaaW.PrintWords Go.Proofs.YtpfikmchimlneaaW.PrintLast Go.Proofs.YtpfikmchimlneaaW.PrintMore Go.Proofs.YtpfikmchimlneaaW.Mine
attribute [local go_sem] max2_int min2_int max_two min_two max_three min_three max_four min_four max2_str min2_str binOp_gtr_str binOp_leq_str binOp_geq_str   -- for this text's walks alone
set_option linter.unusedVariables false
set_option linter.unusedSimpArgs false
/-! ### catchmentref02_Right: function 79 -/
def catchmentref02_Right.f (a0_0 : ByteArray) (a0_1 : ByteArray) : Option (Bool) := if a0_1.toList = ([] : List UInt8) then (some true) else (some (Op.bytesLess a0_0.toList a0_1.toList))
set_option maxHeartbeats 8000000 in
set_option maxRecDepth 100000 in
theorem catchmentref02_Right.calls (a0_0 : ByteArray) (a0_1 : ByteArray) (r : Bool) (w : World) (h : catchmentref02_Right.f a0_0 a0_1 = some r) :
    Calls Try.prog 79 #[.agg #[.string a0_0, .string a0_1]] w fun e w' => e = .returned (.bool r) ∧ Below w.heap.size w w' := by
  (have hu78 := Try.underlying78); (have HB := Aside0.mk (Below.refl w.heap.size w)); (have H : (if a0_1.toList = ([] : List UInt8) then (some true) else (some (Op.bytesLess a0_0.toList a0_1.toList))) = some r := h); (clear h); (by_cases c2 : a0_1.toList = ([] : List UInt8))
  · rw [if_pos c2] at H
    (have c2b0 : (a0_1.toList == ([] : List UInt8)) = true := beq_iff_eq.mpr c2); (have c2b1 : (a0_1.toList != ([] : List UInt8)) = false := bne_eq_false_iff_eq.mpr c2); (clear c2); (obtain rfl := Option.some.inj H); (go_enter Try.func79, Try.ntmps79)
    go_wp2_with (first | ((with_reducible refine gate_dst (N := 1) rfl ?_); refine box_event ?hg (N := 1) ?hd (cs := #[.string a0_0, .string a0_1]) (t := 78) ?hr ?_; (case hd => rfl); (case hg => rfl); (case hr => first | (go_simp; done) | (go_simp; rfl)); intro gb359 hg w3 hbox hb; have n0_ := Aside0.mk (below_step (by repeat (first | (with_reducible first | exact HB.out | apply y1_ | apply y2_ | apply y3_) | exact HB.out)) hb); have n1_ := Aside0.mk (hbox); have n2_ := Aside0.mk ((by rw [hg]; exact (below_size (by repeat (first | (with_reducible first | exact HB.out | apply y1_ | apply y2_ | apply y3_) | exact HB.out))) : w.heap.size ≤ gb359)); have n3_ := Aside0.mk ((by rw [hg]; exact (below_size (by repeat (first | (with_reducible first | exact HB.out | apply y1_ | apply y2_ | apply y3_) | exact HB.out))) : w.heap.size ≤ gb359)); clear HB; have HB := n0_; have BK359 := n1_; have GW359 := n2_; have GE359 := n3_; clear n0_ n1_ n2_ n3_; clear hb hbox hg; have hcz4_0 : w3.cell? ⟨gb359, 0, none⟩ = some (.string a0_0) := (blk_cell BK359.out 0).trans rfl; have hcz4_1 : w3.cell? ⟨gb359, 1, none⟩ = some (.string a0_1) := (blk_cell BK359.out 1).trans rfl; have hfz4_0 := blk_frozen BK359.out 0; have hfz4_1 := blk_frozen BK359.out 1))
    (go_ret); (exact ⟨by first | rfl | (simp [errW_none, errW_some] <;> rfl) | (simp [*, errW_none, errW_some] <;> rfl), by repeat (first | (with_reducible first | exact HB.out | apply y1_ | apply y2_ | apply y3_ | refine y4_ ?_ GE359.out) | exact HB.out)⟩)
  · rw [if_neg c2] at H
    (have c2b0 : (a0_1.toList == ([] : List UInt8)) = false := beq_eq_false_iff_ne.mpr c2); (have c2b1 : (a0_1.toList != ([] : List UInt8)) = true := bne_iff_ne.mpr c2); (obtain rfl := Option.some.inj H); (go_enter Try.func79, Try.ntmps79)
    go_wp2_with (first | ((with_reducible refine gate_dst (N := 1) rfl ?_); refine box_event ?hg (N := 1) ?hd (cs := #[.string a0_0, .string a0_1]) (t := 78) ?hr ?_; (case hd => rfl); (case hg => rfl); (case hr => first | (go_simp; done) | (go_simp; rfl)); intro gb359 hg w5 hbox hb; have n0_ := Aside0.mk (below_step (by repeat (first | (with_reducible first | exact HB.out | apply y1_ | apply y2_ | apply y3_) | exact HB.out)) hb); have n1_ := Aside0.mk (hbox); have n2_ := Aside0.mk ((by rw [hg]; exact (below_size (by repeat (first | (with_reducible first | exact HB.out | apply y1_ | apply y2_ | apply y3_) | exact HB.out))) : w.heap.size ≤ gb359)); have n3_ := Aside0.mk ((by rw [hg]; exact (below_size (by repeat (first | (with_reducible first | exact HB.out | apply y1_ | apply y2_ | apply y3_) | exact HB.out))) : w.heap.size ≤ gb359)); clear HB; have HB := n0_; have BK359 := n1_; have GW359 := n2_; have GE359 := n3_; clear n0_ n1_ n2_ n3_; clear hb hbox hg; have hcz6_0 : w5.cell? ⟨gb359, 0, none⟩ = some (.string a0_0) := (blk_cell BK359.out 0).trans rfl; have hcz6_1 : w5.cell? ⟨gb359, 1, none⟩ = some (.string a0_1) := (blk_cell BK359.out 1).trans rfl; have hfz6_0 := blk_frozen BK359.out 0; have hfz6_1 := blk_frozen BK359.out 1))
    (go_ret); (exact ⟨by first | rfl | (simp [errW_none, errW_some] <;> rfl) | (simp [*, errW_none, errW_some] <;> rfl), by repeat (first | (with_reducible first | exact HB.out | apply y1_ | apply y2_ | apply y3_ | refine y4_ ?_ GE359.out) | exact HB.out)⟩)
end Go.Proofs.Ytpfikmchimlneaa.M3
-- written by a program of this session (wip/myprint.py), over the kit's printer and the session's own contracts
namespace Go.Proofs.Ytpfikmchimlneaa.M3
open Go.RowKit Go.Proofs.YtpfikmchimlneaaW.PrintWords Go.Proofs.YtpfikmchimlneaaW.PrintLast Go.Proofs.YtpfikmchimlneaaW.PrintMore Go.Proofs.YtpfikmchimlneaaW.Mine
attribute [local go_sem] max2_int min2_int max_two min_two max_three min_three max_four min_four max2_str min2_str binOp_gtr_str binOp_leq_str binOp_geq_str   -- for this text's walks alone
set_option linter.unusedVariables false
set_option linter.unusedSimpArgs false
/-! ### catchmentref02_Holds: function 80 -/
def catchmentref02_Holds.f (a0_0 : ByteArray) (a0_1 : ByteArray) (a1 : ByteArray) : Option (Bool) := if ((Op.bytesLess a1.toList a0_0.toList) = true) then (some false) else (if a0_1.toList = ([] : List UInt8) then (some true) else (some (Op.bytesLess a1.toList a0_1.toList)))
set_option maxHeartbeats 8000000 in
set_option maxRecDepth 100000 in
theorem catchmentref02_Holds.calls (a0_0 : ByteArray) (a0_1 : ByteArray) (a1 : ByteArray) (r : Bool) (w : World) (h : catchmentref02_Holds.f a0_0 a0_1 a1 = some r) :
    Calls Try.prog 80 #[.agg #[.string a0_0, .string a0_1], .string a1] w fun e w' => e = .returned (.bool r) ∧ Below w.heap.size w w' := by
  (have hu78 := Try.underlying78); (have HB := Aside0.mk (Below.refl w.heap.size w)); (have H : (if ((Op.bytesLess a1.toList a0_0.toList) = true) then (some false) else (if a0_1.toList = ([] : List UInt8) then (some true) else (some (Op.bytesLess a1.toList a0_1.toList)))) = some r := h); (clear h); (by_cases c3 : ((Op.bytesLess a1.toList a0_0.toList) = true))
  · rw [if_pos c3] at H
    (have c3b0 : (Op.bytesLess a1.toList a0_0.toList) = true := c3); (clear c3); (obtain rfl := Option.some.inj H); (go_enter Try.func80, Try.ntmps80)
    go_wp2_with (first | ((with_reducible refine gate_dst (N := 2) rfl ?_); refine box_event ?hg (N := 2) ?hd (cs := #[.string a0_0, .string a0_1]) (t := 78) ?hr ?_; (case hd => rfl); (case hg => rfl); (case hr => first | (go_simp; done) | (go_simp; rfl)); intro gb360 hg w4 hbox hb; have n0_ := Aside0.mk (below_step (by repeat (first | (with_reducible first | exact HB.out | apply y1_ | apply y2_ | apply y3_) | exact HB.out)) hb); have n1_ := Aside0.mk (hbox); have n2_ := Aside0.mk ((by rw [hg]; exact (below_size (by repeat (first | (with_reducible first | exact HB.out | apply y1_ | apply y2_ | apply y3_) | exact HB.out))) : w.heap.size ≤ gb360)); have n3_ := Aside0.mk ((by rw [hg]; exact (below_size (by repeat (first | (with_reducible first | exact HB.out | apply y1_ | apply y2_ | apply y3_) | exact HB.out))) : w.heap.size ≤ gb360)); clear HB; have HB := n0_; have BK360 := n1_; have GW360 := n2_; have GE360 := n3_; clear n0_ n1_ n2_ n3_; clear hb hbox hg; have hcz5_0 : w4.cell? ⟨gb360, 0, none⟩ = some (.string a0_0) := (blk_cell BK360.out 0).trans rfl; have hcz5_1 : w4.cell? ⟨gb360, 1, none⟩ = some (.string a0_1) := (blk_cell BK360.out 1).trans rfl; have hfz5_0 := blk_frozen BK360.out 0; have hfz5_1 := blk_frozen BK360.out 1))
    (go_ret); (exact ⟨by first | rfl | (simp [errW_none, errW_some] <;> rfl) | (simp [*, errW_none, errW_some] <;> rfl), by repeat (first | (with_reducible first | exact HB.out | apply y1_ | apply y2_ | apply y3_ | refine y4_ ?_ GE360.out) | exact HB.out)⟩)
  · rw [if_neg c3] at H
    (have c3b0 : (Op.bytesLess a1.toList a0_0.toList) = false := by simpa using c3); (clear c3); (by_cases c6 : a0_1.toList = ([] : List UInt8))
    · rw [if_pos c6] at H
      (have c6b0 : (a0_1.toList == ([] : List UInt8)) = true := beq_iff_eq.mpr c6); (have c6b1 : (a0_1.toList != ([] : List UInt8)) = false := bne_eq_false_iff_eq.mpr c6); (clear c6); (obtain rfl := Option.some.inj H); (go_enter Try.func80, Try.ntmps80)
      go_wp2_with (first | ((with_reducible refine gate_dst (N := 2) rfl ?_); refine box_event ?hg (N := 2) ?hd (cs := #[.string a0_0, .string a0_1]) (t := 78) ?hr ?_; (case hd => rfl); (case hg => rfl); (case hr => first | (go_simp; done) | (go_simp; rfl)); intro gb360 hg w7 hbox hb; have n0_ := Aside0.mk (below_step (by repeat (first | (with_reducible first | exact HB.out | apply y1_ | apply y2_ | apply y3_) | exact HB.out)) hb); have n1_ := Aside0.mk (hbox); have n2_ := Aside0.mk ((by rw [hg]; exact (below_size (by repeat (first | (with_reducible first | exact HB.out | apply y1_ | apply y2_ | apply y3_) | exact HB.out))) : w.heap.size ≤ gb360)); have n3_ := Aside0.mk ((by rw [hg]; exact (below_size (by repeat (first | (with_reducible first | exact HB.out | apply y1_ | apply y2_ | apply y3_) | exact HB.out))) : w.heap.size ≤ gb360)); clear HB; have HB := n0_; have BK360 := n1_; have GW360 := n2_; have GE360 := n3_; clear n0_ n1_ n2_ n3_; clear hb hbox hg; have hcz8_0 : w7.cell? ⟨gb360, 0, none⟩ = some (.string a0_0) := (blk_cell BK360.out 0).trans rfl; have hcz8_1 : w7.cell? ⟨gb360, 1, none⟩ = some (.string a0_1) := (blk_cell BK360.out 1).trans rfl; have hfz8_0 := blk_frozen BK360.out 0; have hfz8_1 := blk_frozen BK360.out 1))
      (go_ret); (exact ⟨by first | rfl | (simp [errW_none, errW_some] <;> rfl) | (simp [*, errW_none, errW_some] <;> rfl), by repeat (first | (with_reducible first | exact HB.out | apply y1_ | apply y2_ | apply y3_ | refine y4_ ?_ GE360.out) | exact HB.out)⟩)
    · rw [if_neg c6] at H
      (have c6b0 : (a0_1.toList == ([] : List UInt8)) = false := beq_eq_false_iff_ne.mpr c6); (have c6b1 : (a0_1.toList != ([] : List UInt8)) = true := bne_iff_ne.mpr c6); (obtain rfl := Option.some.inj H); (go_enter Try.func80, Try.ntmps80)
      go_wp2_with (first | ((with_reducible refine gate_dst (N := 2) rfl ?_); refine box_event ?hg (N := 2) ?hd (cs := #[.string a0_0, .string a0_1]) (t := 78) ?hr ?_; (case hd => rfl); (case hg => rfl); (case hr => first | (go_simp; done) | (go_simp; rfl)); intro gb360 hg w9 hbox hb; have n0_ := Aside0.mk (below_step (by repeat (first | (with_reducible first | exact HB.out | apply y1_ | apply y2_ | apply y3_) | exact HB.out)) hb); have n1_ := Aside0.mk (hbox); have n2_ := Aside0.mk ((by rw [hg]; exact (below_size (by repeat (first | (with_reducible first | exact HB.out | apply y1_ | apply y2_ | apply y3_) | exact HB.out))) : w.heap.size ≤ gb360)); have n3_ := Aside0.mk ((by rw [hg]; exact (below_size (by repeat (first | (with_reducible first | exact HB.out | apply y1_ | apply y2_ | apply y3_) | exact HB.out))) : w.heap.size ≤ gb360)); clear HB; have HB := n0_; have BK360 := n1_; have GW360 := n2_; have GE360 := n3_; clear n0_ n1_ n2_ n3_; clear hb hbox hg; have hcz10_0 : w9.cell? ⟨gb360, 0, none⟩ = some (.string a0_0) := (blk_cell BK360.out 0).trans rfl; have hcz10_1 : w9.cell? ⟨gb360, 1, none⟩ = some (.string a0_1) := (blk_cell BK360.out 1).trans rfl; have hfz10_0 := blk_frozen BK360.out 0; have hfz10_1 := blk_frozen BK360.out 1))
      (go_ret); (exact ⟨by first | rfl | (simp [errW_none, errW_some] <;> rfl) | (simp [*, errW_none, errW_some] <;> rfl), by repeat (first | (with_reducible first | exact HB.out | apply y1_ | apply y2_ | apply y3_ | refine y4_ ?_ GE360.out) | exact HB.out)⟩)
end Go.Proofs.Ytpfikmchimlneaa.M3

