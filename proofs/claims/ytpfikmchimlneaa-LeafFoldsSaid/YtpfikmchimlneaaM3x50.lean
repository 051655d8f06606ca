-- written by a program of this session (wip/myprint.py), over the kit's printer and the session's own contracts
import Derived.Test.YtpfikmchimlneaaM3x0
import Derived.Test.YtpfikmchimlneaaM3P0
import Derived.Test.YtpfikmchimlneaaM3x35
import Derived.Test.YtpfikmchimlneaaM3P1
import Derived.Test.YtpfikmchimlneaaM3x39
import Derived.Test.YtpfikmchimlneaaM3x46
import Derived.Test.YtpfikmchimlneaaM3x49
namespace Go.Proofs.Ytpfikmchimlneaa.M3
open Go.RowKit Go.Proofs.YtpfikmchimlneaaW.PrintWords Go.Proofs.YtpfikmchimlneaaW.PrintLast Go.Proofs.YtpfikmchimlneaaW.PrintMore Go.Proofs.YtpfikmchimlneaaW.Mine
attribute [local go_sem] max2_int min2_int max_two min_two max_three min_three max_four min_four max2_str min2_str binOp_gtr_str binOp_leq_str binOp_geq_str   -- for this text's walks alone
set_option linter.unusedVariables false
set_option linter.unusedSimpArgs false

/-! ### leaf_point: function 72 -/
-- over block_Apply, leaf_of, block_Halves, leaf_weld, api_Entry_97
open Go.Proofs.YtpfikmchimlneaaW.Nest Go.Proofs.YtpfikmchimlneaaW.Sl
/-- what becomes of a row in which the block i, which had n entries, has become e -/
def leaf_point.tail (l : List (List S85)) (i : Nat) (e : List S85) (n : Nat) (most : Int) : Option (List (List S85)) :=
  if e.length = 0 then some (l.take i ++ l.drop (i + 1)) else if most < (e.length : Int) then (block_Halves.f e).bind fun t => some (l.take i ++ [t.1, t.2] ++ l.drop (i + 1)) else
  if e.length < n then (if leaf_weld.can l (i : Int) most = true then some (leaf_weld.w l (i : Int) most) else some (leaf_weld.w l ((i : Int) - 1) most)) else some l
def leaf_point.f (k : Nat) (l0 : List (List S85)) (a0 a1 : Int) (a2 a3 a4 : ByteArray) (a5 : Int) (most : Int) : Option (List (List S85)) :=
  if l0.length = 0 then (block_Apply.f k [] a0 a1 a2 a3 a4 a5).bind fun e => some (if 0 < e.length then [e] else []) else
  (leaf_of.f k l0 a2).bind fun i => if 0 ≤ i ∧ i < (l0.length : Int) then (block_Apply.f k (l0.getD i.toNat []) a0 a1 a2 a3 a4 a5).bind fun e => if ((l0.set i.toNat e).all fun x => decide (x.length < 400000)) = true then leaf_point.tail (l0.set i.toNat e) i.toNat e (l0.getD i.toNat []).length most else none else none
theorem leaf_point.cell {w : World} {base g n c : Nat} {xs : List (List S85)} (h : NR k85 85 74 w base (.slice (some ⟨g, 0, none⟩) n c) xs) (i : Nat) (hi : i < xs.length) (v : Value) : (w.setCell ⟨g, i, none⟩ v).cell? ⟨g, i, none⟩ = some v := by
  obtain ⟨hs, hR, hI⟩ := h
  have hl := hI.1
  have hrw := Rw.of hR
  have hle := hrw.len
  obtain ⟨cur, h1, h2, h3, h4, h5⟩ := hrw
  rw [List.length_map] at hle
  exact (blk_cell (blk_set h1 i v) i).trans (by rw [Array.getElem?_setIfInBounds, if_pos rfl, if_pos (by omega)])
theorem leaf_point.wno {w : World} {base : Nat} {v : Value} {xs : List (List S85)} (h : NR k85 85 74 w base v xs) (i most : Int) (hb : xs.length < 1000000) (hi : i ≤ 1000000) (hm : 2 ≤ most) (hm2 : most ≤ 9223372036854775807) (hs : ∀ x ∈ xs, x.length < 400000) (hc : leaf_weld.can xs i most = false) :
    Calls Try.prog 98 #[v, .int .i64 i, .int .i64 most] w fun e w' => e = .returned (.tuple #[v, .bool false]) ∧ ∃ q, w' = w.drewN q := by
  have hat : ∀ j, (leaf_weld.at xs j).length < 400000 := fun j => by
    unfold leaf_weld.at
    rcases Nat.lt_or_ge j xs.length with hj | hj
    · rw [List.getD_eq_getElem?_getD, List.getElem?_eq_getElem hj]
      exact hs _ (List.getElem_mem hj)
    · rw [List.getD_eq_getElem?_getD, List.getElem?_eq_none hj]
      simp
  by_cases h1 : i < 0
  · exact leaf_weld.low h i most h1
  · obtain ⟨n, rfl⟩ := Int.eq_ofNat_of_zero_le (show 0 ≤ i by omega)
    by_cases h2 : (xs.length : Int) ≤ (n : Int) + 1
    · exact leaf_weld.high h (n : Int) most (by omega) h2 hi
    · have a1 := hat n
      have a2 := hat (n + 1)
      have e1 : ((n : Int) + 1).toNat = n + 1 := by omega
      by_cases h3 : (((leaf_weld.at xs n).length + (leaf_weld.at xs (n + 1)).length : Nat) : Int) ≤ most / 2
      · exfalso
        unfold leaf_weld.can at hc
        rw [decide_eq_true (by omega), decide_eq_true (by omega), Int.toNat_natCast, e1, decide_eq_true (by omega)] at hc
        cases hc
      · exact leaf_weld.much h n most (by omega) (by omega) hm hm2 (by omega) (by omega)
set_option maxHeartbeats 16000000 in
set_option maxRecDepth 100000 in
theorem leaf_point.empty (k : Nat) {w : World} {base : Nat} {v : Value} (h : NR k85 85 74 w base v []) (a0 a1 : Int) (a2 a3 a4 : ByteArray) (a5 : Int) (most : Int) (e : List S85) (hbw : base ≤ w.heap.size) (he : block_Apply.f k [] a0 a1 a2 a3 a4 a5 = some e) :
    Calls Try.prog 72 #[v, .agg #[.int .u8 a0, .int .i64 a1, .string a2, .string a3, .string a4, .int .u64 a5], .int .i64 most] w fun x w' => ∃ v', x = .returned v' ∧ NR k85 85 74 w' base v' (if 0 < e.length then [e] else []) ∧ Below base w w' := by
  obtain ⟨A, c, rfl⟩ := h.slice
  have HN := Aside0.mk h
  have HE := Aside0.mk he
  have HBW := Aside0.mk hbw
  have HB0 := Aside0.mk ((Below.refl w.heap.size w).alloc (Nat.le_refl _) (.cells #[.int .u8 a0, .int .i64 a1, .string a2, .string a3, .string a4, .int .u64 a5] 69))
  have HX := Aside0.mk (heap_alloc_new w (.cells #[.int .u8 a0, .int .i64 a1, .string a2, .string a3, .string a4, .int .u64 a5] 69))
  have b0 : (w.alloc (.cells #[.int .u8 a0, .int .i64 a1, .string a2, .string a3, .string a4, .int .u64 a5] 69)).cell? ⟨w.heap.size, 0, none⟩ = some (.int .u8 a0) := (blk_cell HX.out 0).trans rfl
  have b1 : (w.alloc (.cells #[.int .u8 a0, .int .i64 a1, .string a2, .string a3, .string a4, .int .u64 a5] 69)).cell? ⟨w.heap.size, 1, none⟩ = some (.int .i64 a1) := (blk_cell HX.out 1).trans rfl
  have b2 : (w.alloc (.cells #[.int .u8 a0, .int .i64 a1, .string a2, .string a3, .string a4, .int .u64 a5] 69)).cell? ⟨w.heap.size, 2, none⟩ = some (.string a2) := (blk_cell HX.out 2).trans rfl
  have b3 : (w.alloc (.cells #[.int .u8 a0, .int .i64 a1, .string a2, .string a3, .string a4, .int .u64 a5] 69)).cell? ⟨w.heap.size, 3, none⟩ = some (.string a3) := (blk_cell HX.out 3).trans rfl
  have b4 : (w.alloc (.cells #[.int .u8 a0, .int .i64 a1, .string a2, .string a3, .string a4, .int .u64 a5] 69)).cell? ⟨w.heap.size, 4, none⟩ = some (.string a4) := (blk_cell HX.out 4).trans rfl
  have b5 : (w.alloc (.cells #[.int .u8 a0, .int .i64 a1, .string a2, .string a3, .string a4, .int .u64 a5] 69)).cell? ⟨w.heap.size, 5, none⟩ = some (.int .u64 a5) := (blk_cell HX.out 5).trans rfl
  have hnil : Kd.C k85 (w.alloc (.cells #[.int .u8 a0, .int .i64 a1, .string a2, .string a3, .string a4, .int .u64 a5] 69)) none 0 [] := ⟨rfl, by omega, fun h => absurd h (by omega)⟩
  have HNIL := Aside0.mk hnil
  clear h he hbw hnil
  by_cases hp : 0 < e.length
  · rw [if_pos hp]
    have d1 : decide ((0 : Int) < (e.length : Int)) = true := decide_eq_true (by omega)
    have d2 : decide (0 < e.length) = true := decide_eq_true hp
    generalize hn : e.length = n at d1 d2
    have HNN := Aside0.mk hn
    clear hp hn
    go_enter Try.func72, Try.ntmps72
    go_wp2_with (go_at_call 73; refine (block_Apply.calls k none 0 [] a0 a1 a2 a3 a4 a5 e _ (by exact HNIL.out) (by exact Nat.le_refl _) HE.out).mono ?_; rintro x w1 ⟨v1, rfl, hR1, hB1⟩; have HB1 := Aside0.mk (HB0.out.trans (hB1.mono HB0.out.size)); have HR1 := Aside0.mk (Kd.R_lower hR1 (Nat.le_trans HBW.out HB0.out.size)); obtain ⟨Aa, ca, rfl⟩ := Kd.R_slice hR1; rw [HNN.out] at *; clear hR1 hB1)
    go_ret
    refine ⟨_, rfl, ?_, (HB1.out.mono HBW.out).alloc (Nat.le_trans HBW.out HB1.out.size) _⟩
    have hrw : Rw 74 (w1.alloc (.cells #[.slice Aa n ca] 74)) base w1.heap.size 1 (([((Aa, n, ca) : Hd)] : List Hd).map hv) := ⟨_, heap_alloc_new w1 _, rfl, by unfold maxLen; omega, Nat.le_trans HBW.out HB1.out.size, rfl⟩
    exact ⟨_, hrw.to, Inn.one (Kd.R_below (by first | exact HR1.out | (rw [← HNN.out] at *; exact HR1.out)) (below_alloc (Below.refl _ _) _))⟩
  · rw [if_neg hp]
    have d1 : decide ((0 : Int) < (e.length : Int)) = false := decide_eq_false (by omega)
    have d2 : decide (0 < e.length) = false := decide_eq_false hp
    generalize hn : e.length = n at d1 d2
    have HNN := Aside0.mk hn
    clear hp hn
    go_enter Try.func72, Try.ntmps72
    go_wp2_with (go_at_call 73; refine (block_Apply.calls k none 0 [] a0 a1 a2 a3 a4 a5 e _ (by exact HNIL.out) (by exact Nat.le_refl _) HE.out).mono ?_; rintro x w1 ⟨v1, rfl, hR1, hB1⟩; have HB1 := Aside0.mk (HB0.out.trans (hB1.mono HB0.out.size)); obtain ⟨Aa, ca, rfl⟩ := Kd.R_slice hR1; rw [HNN.out] at *; clear hR1 hB1)
    go_ret
    exact ⟨_, rfl, HN.out.below HB1.out, HB1.out.mono HBW.out⟩
set_option maxHeartbeats 16000000 in
set_option maxRecDepth 100000 in
theorem leaf_point.gone (k : Nat) {w : World} {base : Nat} {v : Value} {l0 : List (List S85)} (h : NR k85 85 74 w base v l0) (a0 a1 : Int) (a2 a3 a4 : ByteArray) (a5 : Int) (most : Int) (i : Nat) (e : List S85) (hb : l0.length < 1000000) (hi : i < l0.length) (hof : leaf_of.f k l0 a2 = some (i : Int)) (he : block_Apply.f k (l0.getD i []) a0 a1 a2 a3 a4 a5 = some e) (h0 : e.length = 0) :
    Calls Try.prog 72 #[v, .agg #[.int .u8 a0, .int .i64 a1, .string a2, .string a3, .string a4, .int .u64 a5], .int .i64 most] w fun x w' => ∃ v', x = .returned v' ∧ NR k85 85 74 w' base v' ((l0.set i e).take i ++ (l0.set i e).drop (i + 1)) ∧ Below base w w' := by
  obtain ⟨g, c, rfl, hbg, hgl⟩ := h.form (by omega)
  obtain ⟨hNE, _, _, ⟨Ai, ci, hci, hRi⟩, hfi⟩ := h.elem i hi
  have hC := (Kd.R_reads' (h.to api_Entry_95.ne)).2
  have HN := Aside0.mk h
  have HC := Aside0.mk hC.2
  have HCC := Aside0.mk hC.1
  have HRI := Aside0.mk hRi
  have HBG := Aside0.mk hbg
  have HGL := Aside0.mk hgl
  have HOF := Aside0.mk hof
  have HE := Aside0.mk he
  have HBW := Aside0.mk (show base ≤ w.heap.size from Nat.le_of_lt (Nat.lt_of_le_of_lt hbg hgl))
  have HB0 := Aside0.mk ((Below.refl w.heap.size w).alloc (Nat.le_refl _) (.cells #[.int .u8 a0, .int .i64 a1, .string a2, .string a3, .string a4, .int .u64 a5] 69))
  have HX := Aside0.mk (heap_alloc_new w (.cells #[.int .u8 a0, .int .i64 a1, .string a2, .string a3, .string a4, .int .u64 a5] 69))
  have b0 : (w.alloc (.cells #[.int .u8 a0, .int .i64 a1, .string a2, .string a3, .string a4, .int .u64 a5] 69)).cell? ⟨w.heap.size, 0, none⟩ = some (.int .u8 a0) := (blk_cell HX.out 0).trans rfl
  have b1 : (w.alloc (.cells #[.int .u8 a0, .int .i64 a1, .string a2, .string a3, .string a4, .int .u64 a5] 69)).cell? ⟨w.heap.size, 1, none⟩ = some (.int .i64 a1) := (blk_cell HX.out 1).trans rfl
  have b2 : (w.alloc (.cells #[.int .u8 a0, .int .i64 a1, .string a2, .string a3, .string a4, .int .u64 a5] 69)).cell? ⟨w.heap.size, 2, none⟩ = some (.string a2) := (blk_cell HX.out 2).trans rfl
  have b3 : (w.alloc (.cells #[.int .u8 a0, .int .i64 a1, .string a2, .string a3, .string a4, .int .u64 a5] 69)).cell? ⟨w.heap.size, 3, none⟩ = some (.string a3) := (blk_cell HX.out 3).trans rfl
  have b4 : (w.alloc (.cells #[.int .u8 a0, .int .i64 a1, .string a2, .string a3, .string a4, .int .u64 a5] 69)).cell? ⟨w.heap.size, 4, none⟩ = some (.string a4) := (blk_cell HX.out 4).trans rfl
  have b5 : (w.alloc (.cells #[.int .u8 a0, .int .i64 a1, .string a2, .string a3, .string a4, .int .u64 a5] 69)).cell? ⟨w.heap.size, 5, none⟩ = some (.int .u64 a5) := (blk_cell HX.out 5).trans rfl
  have HCI := Aside0.mk hci
  have HFI := Aside0.mk hfi
  have HI := Aside0.mk hi
  have HHB := Aside0.mk hb
  have HSL : Aside0 ((l0.set i e).length = l0.length) := ⟨List.length_set ..⟩
  have HGE : Aside0 ((l0.set i e).getD i [] = e) := ⟨by rw [List.getD_eq_getElem?_getD, List.getElem?_set_self hi]; rfl⟩
  have p1 : (i : Int) < (l0.length : Int) := by omega
  have p2 : i < l0.length := hi
  have p3 : l0.length ≤ 1000000 := by omega
  have p4 : i ≤ 1000000 := by omega
  have p5 : ((l0.length : Int) == 0) = false := beq_eq_false_iff_ne.2 (by omega)
  have p6 : ¬ ((l0.length : Int) = 0) := by omega
  have p7 : ¬ (l0.length = 0) := by omega
  generalize hy : l0.getD i [] = y at *
  have HY := Aside0.mk hy
  clear h hC hRi hbg hgl hof he hci hfi hi hb hNE hy
  have q1 : ((e.length : Int) == 0) = true := by rw [h0]; rfl
  have q2 : IntKind.i64.wrap ((i : Int) + 1) = (i : Int) + 1 := by rw [IntKind.wrap_i64]; omega
  clear h0
  have HDL := Aside0.mk (show ∀ W : World, NR k85 85 74 W base (.slice (some ⟨g, 0, none⟩) l0.length c) (l0.set i e) → Calls Try.prog 95 #[(.slice (some ⟨g, 0, none⟩) l0.length c), .int .i64 (i : Int), .int .i64 ((i : Int) + 1)] W fun x w' => ∃ v', x = .returned v' ∧ NR k85 85 74 w' base v' ((l0.set i e).take i ++ (l0.set i e).drop (i + 1)) ∧ Below base W w' from fun W hN => by
    have h_ := api_Entry_95.del hN i (i + 1) (by omega) (by rw [HSL.out]; exact HI.out)
    rwa [show ((i + 1 : Nat) : Int) = (i : Int) + 1 from by omega] at h_)
  go_enter Try.func72, Try.ntmps72
  go_wp2_with (go_at_call 83; refine (leaf_of.calls k (some ⟨g, 0, none⟩) c l0 a2 (i : Int) _ (by exact Kd.C_below HC.out HB0.out) HCC.out HOF.out).mono ?_; rintro x w1 ⟨rfl, hB1⟩; have HB1 := Aside0.mk (HB0.out.trans (hB1.mono HB0.out.size)); have HX1 := Aside0.mk ((hB1.block w.heap.size (by simp)).trans HX.out); have k1 := c1_ HB1 HCI.out; clear hB1)
  have c0 := (HX1.out : w1.heap[w.heap.size]? = _)
  have d0 : w1.cell? ⟨w.heap.size, 0, none⟩ = some (.int .u8 a0) := (blk_cell c0 0).trans rfl
  have d1 : w1.cell? ⟨w.heap.size, 1, none⟩ = some (.int .i64 a1) := (blk_cell c0 1).trans rfl
  have d2 : w1.cell? ⟨w.heap.size, 2, none⟩ = some (.string a2) := (blk_cell c0 2).trans rfl
  have d3 : w1.cell? ⟨w.heap.size, 3, none⟩ = some (.string a3) := (blk_cell c0 3).trans rfl
  have d4 : w1.cell? ⟨w.heap.size, 4, none⟩ = some (.string a4) := (blk_cell c0 4).trans rfl
  have d5 : w1.cell? ⟨w.heap.size, 5, none⟩ = some (.int .u64 a5) := (blk_cell c0 5).trans rfl
  clear c0 b0 b1 b2 b3 b4 b5
  have HN1 := Aside0.mk (HN.out.below HB1.out)
  have HR1 := Aside0.mk (Kd.R_below HRI.out HB1.out)
  have f1 := (HN1.out.elem i HI.out).2.2.2.2
  go_region_with (first
    | (go_at_call 73; refine (block_Apply.calls k Ai ci y a0 a1 a2 a3 a4 a5 e _ ?hC ?hL HE.out).mono ?_; (case hC => exact Kd.C_below (Kd.R_reads' HR1.out).2.2 (by repeat (first | exact Below.refl _ _ | apply y1_ | apply y2_ | apply y3_))); (case hL => exact (Kd.R_reads' HR1.out).2.1); rintro x w2 ⟨v2, rfl, hR2, hB2⟩; have HB2 := Aside0.mk (below_step (show Below w1.heap.size w1 _ from by repeat (first | exact Below.refl _ _ | apply y1_ | apply y2_ | apply y3_)) hB2); have HN2 := Aside0.mk (HN1.out.below HB2.out); have HR2 := Aside0.mk (Kd.R_lower hR2 (show base ≤ _ from Nat.le_trans HBW.out (Nat.le_trans HB1.out.size (below_size (show Below w1.heap.size w1 _ from by repeat (first | exact Below.refl _ _ | apply y1_ | apply y2_ | apply y3_)))))); obtain ⟨Aa, ca, rfl⟩ := Kd.R_slice hR2; obtain ⟨-, -, -, ⟨Ax, cx, hx2, hrx⟩, hf2⟩ := HN2.out.elem i HI.out; clear hrx hR2 hB2; rw [HY.out] at hx2))
  all_goals (
    have HN3 := Aside0.mk (show NR k85 85 74 (w2.setCell ⟨g, i, none⟩ (.slice Aa e.length ca)) base (.slice (some ⟨g, 0, none⟩) l0.length c) (l0.set i e) from HN2.out.set api_Entry_95.ne i ((Aa, e.length, ca) : Hd) (y := e) HR2.out)
    have HB3 := Aside0.mk ((((HB1.out.mono HBW.out)).trans (HB2.out.mono (Nat.le_trans HBW.out HB1.out.size))).grown (set_grown g i (.slice Aa e.length ca)) (Nat.le_trans HBW.out (Nat.le_trans HB1.out.size HB2.out.size)) (fun q hq => by cases hq; exact HBG.out))
    have HX3 := Aside0.mk ((Below.heap_setCell w2 ⟨g, i, none⟩ (.slice Aa e.length ca) w.heap.size (show w.heap.size ≠ g from Nat.ne_of_gt HGL.out)).trans ((HB2.out.block w.heap.size (blk_lt HX1.out)).trans HX1.out))
    have f3 := leaf_point.cell HN2.out i HI.out (.slice Aa e.length ca)
    have f4 := (HN3.out.elem i (by rw [HSL.out]; exact HI.out)).2.2.2.2
    clear hx2 hf2 k1 f1 HN1 HN2 HR2 HB2 HB1 HX1)
  all_goals (try go_wp2_with (go_at_call 95; refine (HDL.out _ HN3.out).mono ?_; rintro x w3 ⟨v3, rfl, hN4, hB4⟩; have HN4 := Aside0.mk hN4; have HB4 := Aside0.mk (HB3.out.trans hB4); clear hN4 hB4))
  all_goals (go_ret; exact ⟨_, rfl, HN4.out, HB4.out⟩)
set_option maxHeartbeats 16000000 in
set_option maxRecDepth 100000 in
theorem leaf_point.stay (k : Nat) {w : World} {base : Nat} {v : Value} {l0 : List (List S85)} (h : NR k85 85 74 w base v l0) (a0 a1 : Int) (a2 a3 a4 : ByteArray) (a5 : Int) (most : Int) (i : Nat) (e : List S85) (hb : l0.length < 1000000) (hi : i < l0.length) (hof : leaf_of.f k l0 a2 = some (i : Int)) (he : block_Apply.f k (l0.getD i []) a0 a1 a2 a3 a4 a5 = some e) (h0 : ¬ e.length = 0) (h1 : (e.length : Int) ≤ most) (h2 : (l0.getD i []).length ≤ e.length) :
    Calls Try.prog 72 #[v, .agg #[.int .u8 a0, .int .i64 a1, .string a2, .string a3, .string a4, .int .u64 a5], .int .i64 most] w fun x w' => ∃ v', x = .returned v' ∧ NR k85 85 74 w' base v' ((l0.set i e)) ∧ Below base w w' := by
  obtain ⟨g, c, rfl, hbg, hgl⟩ := h.form (by omega)
  obtain ⟨hNE, _, _, ⟨Ai, ci, hci, hRi⟩, hfi⟩ := h.elem i hi
  have hC := (Kd.R_reads' (h.to api_Entry_95.ne)).2
  have HN := Aside0.mk h
  have HC := Aside0.mk hC.2
  have HCC := Aside0.mk hC.1
  have HRI := Aside0.mk hRi
  have HBG := Aside0.mk hbg
  have HGL := Aside0.mk hgl
  have HOF := Aside0.mk hof
  have HE := Aside0.mk he
  have HBW := Aside0.mk (show base ≤ w.heap.size from Nat.le_of_lt (Nat.lt_of_le_of_lt hbg hgl))
  have HB0 := Aside0.mk ((Below.refl w.heap.size w).alloc (Nat.le_refl _) (.cells #[.int .u8 a0, .int .i64 a1, .string a2, .string a3, .string a4, .int .u64 a5] 69))
  have HX := Aside0.mk (heap_alloc_new w (.cells #[.int .u8 a0, .int .i64 a1, .string a2, .string a3, .string a4, .int .u64 a5] 69))
  have b0 : (w.alloc (.cells #[.int .u8 a0, .int .i64 a1, .string a2, .string a3, .string a4, .int .u64 a5] 69)).cell? ⟨w.heap.size, 0, none⟩ = some (.int .u8 a0) := (blk_cell HX.out 0).trans rfl
  have b1 : (w.alloc (.cells #[.int .u8 a0, .int .i64 a1, .string a2, .string a3, .string a4, .int .u64 a5] 69)).cell? ⟨w.heap.size, 1, none⟩ = some (.int .i64 a1) := (blk_cell HX.out 1).trans rfl
  have b2 : (w.alloc (.cells #[.int .u8 a0, .int .i64 a1, .string a2, .string a3, .string a4, .int .u64 a5] 69)).cell? ⟨w.heap.size, 2, none⟩ = some (.string a2) := (blk_cell HX.out 2).trans rfl
  have b3 : (w.alloc (.cells #[.int .u8 a0, .int .i64 a1, .string a2, .string a3, .string a4, .int .u64 a5] 69)).cell? ⟨w.heap.size, 3, none⟩ = some (.string a3) := (blk_cell HX.out 3).trans rfl
  have b4 : (w.alloc (.cells #[.int .u8 a0, .int .i64 a1, .string a2, .string a3, .string a4, .int .u64 a5] 69)).cell? ⟨w.heap.size, 4, none⟩ = some (.string a4) := (blk_cell HX.out 4).trans rfl
  have b5 : (w.alloc (.cells #[.int .u8 a0, .int .i64 a1, .string a2, .string a3, .string a4, .int .u64 a5] 69)).cell? ⟨w.heap.size, 5, none⟩ = some (.int .u64 a5) := (blk_cell HX.out 5).trans rfl
  have HCI := Aside0.mk hci
  have HFI := Aside0.mk hfi
  have HI := Aside0.mk hi
  have HHB := Aside0.mk hb
  have HSL : Aside0 ((l0.set i e).length = l0.length) := ⟨List.length_set ..⟩
  have HGE : Aside0 ((l0.set i e).getD i [] = e) := ⟨by rw [List.getD_eq_getElem?_getD, List.getElem?_set_self hi]; rfl⟩
  have p1 : (i : Int) < (l0.length : Int) := by omega
  have p2 : i < l0.length := hi
  have p3 : l0.length ≤ 1000000 := by omega
  have p4 : i ≤ 1000000 := by omega
  have p5 : ((l0.length : Int) == 0) = false := beq_eq_false_iff_ne.2 (by omega)
  have p6 : ¬ ((l0.length : Int) = 0) := by omega
  have p7 : ¬ (l0.length = 0) := by omega
  generalize hy : l0.getD i [] = y at *
  have HY := Aside0.mk hy
  clear h hC hRi hbg hgl hof he hci hfi hi hb hNE hy
  have q1 : ((e.length : Int) == 0) = false := beq_eq_false_iff_ne.2 (by omega)
  have q3 : decide (most < (e.length : Int)) = false := decide_eq_false (by omega)
  have q4 : decide ((e.length : Int) < (y.length : Int)) = false := decide_eq_false (by omega)
  have q5 : decide (e.length < y.length) = false := decide_eq_false (by omega)
  clear h0 h1 h2
  go_enter Try.func72, Try.ntmps72
  go_wp2_with (go_at_call 83; refine (leaf_of.calls k (some ⟨g, 0, none⟩) c l0 a2 (i : Int) _ (by exact Kd.C_below HC.out HB0.out) HCC.out HOF.out).mono ?_; rintro x w1 ⟨rfl, hB1⟩; have HB1 := Aside0.mk (HB0.out.trans (hB1.mono HB0.out.size)); have HX1 := Aside0.mk ((hB1.block w.heap.size (by simp)).trans HX.out); have k1 := c1_ HB1 HCI.out; clear hB1)
  have c0 := (HX1.out : w1.heap[w.heap.size]? = _)
  have d0 : w1.cell? ⟨w.heap.size, 0, none⟩ = some (.int .u8 a0) := (blk_cell c0 0).trans rfl
  have d1 : w1.cell? ⟨w.heap.size, 1, none⟩ = some (.int .i64 a1) := (blk_cell c0 1).trans rfl
  have d2 : w1.cell? ⟨w.heap.size, 2, none⟩ = some (.string a2) := (blk_cell c0 2).trans rfl
  have d3 : w1.cell? ⟨w.heap.size, 3, none⟩ = some (.string a3) := (blk_cell c0 3).trans rfl
  have d4 : w1.cell? ⟨w.heap.size, 4, none⟩ = some (.string a4) := (blk_cell c0 4).trans rfl
  have d5 : w1.cell? ⟨w.heap.size, 5, none⟩ = some (.int .u64 a5) := (blk_cell c0 5).trans rfl
  clear c0 b0 b1 b2 b3 b4 b5
  have HN1 := Aside0.mk (HN.out.below HB1.out)
  have HR1 := Aside0.mk (Kd.R_below HRI.out HB1.out)
  have f1 := (HN1.out.elem i HI.out).2.2.2.2
  go_region_with (first
    | (go_at_call 73; refine (block_Apply.calls k Ai ci y a0 a1 a2 a3 a4 a5 e _ ?hC ?hL HE.out).mono ?_; (case hC => exact Kd.C_below (Kd.R_reads' HR1.out).2.2 (by repeat (first | exact Below.refl _ _ | apply y1_ | apply y2_ | apply y3_))); (case hL => exact (Kd.R_reads' HR1.out).2.1); rintro x w2 ⟨v2, rfl, hR2, hB2⟩; have HB2 := Aside0.mk (below_step (show Below w1.heap.size w1 _ from by repeat (first | exact Below.refl _ _ | apply y1_ | apply y2_ | apply y3_)) hB2); have HN2 := Aside0.mk (HN1.out.below HB2.out); have HR2 := Aside0.mk (Kd.R_lower hR2 (show base ≤ _ from Nat.le_trans HBW.out (Nat.le_trans HB1.out.size (below_size (show Below w1.heap.size w1 _ from by repeat (first | exact Below.refl _ _ | apply y1_ | apply y2_ | apply y3_)))))); obtain ⟨Aa, ca, rfl⟩ := Kd.R_slice hR2; obtain ⟨-, -, -, ⟨Ax, cx, hx2, hrx⟩, hf2⟩ := HN2.out.elem i HI.out; clear hrx hR2 hB2; rw [HY.out] at hx2))
  all_goals (
    have HN3 := Aside0.mk (show NR k85 85 74 (w2.setCell ⟨g, i, none⟩ (.slice Aa e.length ca)) base (.slice (some ⟨g, 0, none⟩) l0.length c) (l0.set i e) from HN2.out.set api_Entry_95.ne i ((Aa, e.length, ca) : Hd) (y := e) HR2.out)
    have HB3 := Aside0.mk ((((HB1.out.mono HBW.out)).trans (HB2.out.mono (Nat.le_trans HBW.out HB1.out.size))).grown (set_grown g i (.slice Aa e.length ca)) (Nat.le_trans HBW.out (Nat.le_trans HB1.out.size HB2.out.size)) (fun q hq => by cases hq; exact HBG.out))
    have HX3 := Aside0.mk ((Below.heap_setCell w2 ⟨g, i, none⟩ (.slice Aa e.length ca) w.heap.size (show w.heap.size ≠ g from Nat.ne_of_gt HGL.out)).trans ((HB2.out.block w.heap.size (blk_lt HX1.out)).trans HX1.out))
    have f3 := leaf_point.cell HN2.out i HI.out (.slice Aa e.length ca)
    have f4 := (HN3.out.elem i (by rw [HSL.out]; exact HI.out)).2.2.2.2
    clear hx2 hf2 k1 f1 HN1 HN2 HR2 HB2 HB1 HX1)
  all_goals (try go_wp2_with fail)
  all_goals (go_ret; exact ⟨_, rfl, HN3.out, HB3.out⟩)
set_option maxHeartbeats 16000000 in
set_option maxRecDepth 100000 in
theorem leaf_point.more (k : Nat) {w : World} {base : Nat} {v : Value} {l0 : List (List S85)} (h : NR k85 85 74 w base v l0) (a0 a1 : Int) (a2 a3 a4 : ByteArray) (a5 : Int) (most : Int) (i : Nat) (e : List S85) (hb : l0.length < 1000000) (hi : i < l0.length) (hof : leaf_of.f k l0 a2 = some (i : Int)) (he : block_Apply.f k (l0.getD i []) a0 a1 a2 a3 a4 a5 = some e) (h0 : ¬ e.length = 0) (h1 : most < (e.length : Int)) (t1 t2 : List S85) (hh : block_Halves.f e = some (t1, t2)) :
    Calls Try.prog 72 #[v, .agg #[.int .u8 a0, .int .i64 a1, .string a2, .string a3, .string a4, .int .u64 a5], .int .i64 most] w fun x w' => ∃ v', x = .returned v' ∧ NR k85 85 74 w' base v' ((l0.set i e).take i ++ [t1, t2] ++ (l0.set i e).drop (i + 1)) ∧ Below base w w' := by
  obtain ⟨g, c, rfl, hbg, hgl⟩ := h.form (by omega)
  obtain ⟨hNE, _, _, ⟨Ai, ci, hci, hRi⟩, hfi⟩ := h.elem i hi
  have hC := (Kd.R_reads' (h.to api_Entry_95.ne)).2
  have HN := Aside0.mk h
  have HC := Aside0.mk hC.2
  have HCC := Aside0.mk hC.1
  have HRI := Aside0.mk hRi
  have HBG := Aside0.mk hbg
  have HGL := Aside0.mk hgl
  have HOF := Aside0.mk hof
  have HE := Aside0.mk he
  have HBW := Aside0.mk (show base ≤ w.heap.size from Nat.le_of_lt (Nat.lt_of_le_of_lt hbg hgl))
  have HB0 := Aside0.mk ((Below.refl w.heap.size w).alloc (Nat.le_refl _) (.cells #[.int .u8 a0, .int .i64 a1, .string a2, .string a3, .string a4, .int .u64 a5] 69))
  have HX := Aside0.mk (heap_alloc_new w (.cells #[.int .u8 a0, .int .i64 a1, .string a2, .string a3, .string a4, .int .u64 a5] 69))
  have b0 : (w.alloc (.cells #[.int .u8 a0, .int .i64 a1, .string a2, .string a3, .string a4, .int .u64 a5] 69)).cell? ⟨w.heap.size, 0, none⟩ = some (.int .u8 a0) := (blk_cell HX.out 0).trans rfl
  have b1 : (w.alloc (.cells #[.int .u8 a0, .int .i64 a1, .string a2, .string a3, .string a4, .int .u64 a5] 69)).cell? ⟨w.heap.size, 1, none⟩ = some (.int .i64 a1) := (blk_cell HX.out 1).trans rfl
  have b2 : (w.alloc (.cells #[.int .u8 a0, .int .i64 a1, .string a2, .string a3, .string a4, .int .u64 a5] 69)).cell? ⟨w.heap.size, 2, none⟩ = some (.string a2) := (blk_cell HX.out 2).trans rfl
  have b3 : (w.alloc (.cells #[.int .u8 a0, .int .i64 a1, .string a2, .string a3, .string a4, .int .u64 a5] 69)).cell? ⟨w.heap.size, 3, none⟩ = some (.string a3) := (blk_cell HX.out 3).trans rfl
  have b4 : (w.alloc (.cells #[.int .u8 a0, .int .i64 a1, .string a2, .string a3, .string a4, .int .u64 a5] 69)).cell? ⟨w.heap.size, 4, none⟩ = some (.string a4) := (blk_cell HX.out 4).trans rfl
  have b5 : (w.alloc (.cells #[.int .u8 a0, .int .i64 a1, .string a2, .string a3, .string a4, .int .u64 a5] 69)).cell? ⟨w.heap.size, 5, none⟩ = some (.int .u64 a5) := (blk_cell HX.out 5).trans rfl
  have HCI := Aside0.mk hci
  have HFI := Aside0.mk hfi
  have HI := Aside0.mk hi
  have HHB := Aside0.mk hb
  have HSL : Aside0 ((l0.set i e).length = l0.length) := ⟨List.length_set ..⟩
  have HGE : Aside0 ((l0.set i e).getD i [] = e) := ⟨by rw [List.getD_eq_getElem?_getD, List.getElem?_set_self hi]; rfl⟩
  have p1 : (i : Int) < (l0.length : Int) := by omega
  have p2 : i < l0.length := hi
  have p3 : l0.length ≤ 1000000 := by omega
  have p4 : i ≤ 1000000 := by omega
  have p5 : ((l0.length : Int) == 0) = false := beq_eq_false_iff_ne.2 (by omega)
  have p6 : ¬ ((l0.length : Int) = 0) := by omega
  have p7 : ¬ (l0.length = 0) := by omega
  generalize hy : l0.getD i [] = y at *
  have HY := Aside0.mk hy
  clear h hC hRi hbg hgl hof he hci hfi hi hb hNE hy
  have q1 : ((e.length : Int) == 0) = false := beq_eq_false_iff_ne.2 (by omega)
  have q2 : IntKind.i64.wrap ((i : Int) + 1) = (i : Int) + 1 := by rw [IntKind.wrap_i64]; omega
  have q3 : decide (most < (e.length : Int)) = true := decide_eq_true (by omega)
  have HHH := Aside0.mk hh
  clear h0 h1 hh
  have HDL := Aside0.mk (show ∀ (W : World) (a b : Hd) (bx : Nat), NR k85 85 74 W base (.slice (some ⟨g, 0, none⟩) l0.length c) (l0.set i e) → Kd.R k85 85 W base (fun _ => True) (hv a) t1 → Kd.R k85 85 W base (fun _ => True) (hv b) t2 → W.heap[bx]? = some (.cells #[hv a, hv b] 74 (0, 0)) → g ≠ bx → Calls Try.prog 97 #[(.slice (some ⟨g, 0, none⟩) l0.length c), .int .i64 (i : Int), .int .i64 ((i : Int) + 1), .slice (some ⟨bx, 0, none⟩) 2 2] W fun x w' => ∃ v', x = .returned v' ∧ NR k85 85 74 w' base v' ((l0.set i e).take i ++ [t1, t2] ++ (l0.set i e).drop (i + 1)) ∧ Below base W w' from fun W a b bx hN ha hbb hx hg => by
    have h_ := api_Entry_97.two hN i (i + 1) rfl (by rw [HSL.out]; exact HI.out) (by rw [HSL.out]; exact HHB.out) a b t1 t2 ha hbb bx hx (fun e_ => hg (Option.some.inj e_))
    rwa [show ((i + 1 : Nat) : Int) = (i : Int) + 1 from by omega] at h_)
  go_enter Try.func72, Try.ntmps72
  go_wp2_with (go_at_call 83; refine (leaf_of.calls k (some ⟨g, 0, none⟩) c l0 a2 (i : Int) _ (by exact Kd.C_below HC.out HB0.out) HCC.out HOF.out).mono ?_; rintro x w1 ⟨rfl, hB1⟩; have HB1 := Aside0.mk (HB0.out.trans (hB1.mono HB0.out.size)); have HX1 := Aside0.mk ((hB1.block w.heap.size (by simp)).trans HX.out); have k1 := c1_ HB1 HCI.out; clear hB1)
  have c0 := (HX1.out : w1.heap[w.heap.size]? = _)
  have d0 : w1.cell? ⟨w.heap.size, 0, none⟩ = some (.int .u8 a0) := (blk_cell c0 0).trans rfl
  have d1 : w1.cell? ⟨w.heap.size, 1, none⟩ = some (.int .i64 a1) := (blk_cell c0 1).trans rfl
  have d2 : w1.cell? ⟨w.heap.size, 2, none⟩ = some (.string a2) := (blk_cell c0 2).trans rfl
  have d3 : w1.cell? ⟨w.heap.size, 3, none⟩ = some (.string a3) := (blk_cell c0 3).trans rfl
  have d4 : w1.cell? ⟨w.heap.size, 4, none⟩ = some (.string a4) := (blk_cell c0 4).trans rfl
  have d5 : w1.cell? ⟨w.heap.size, 5, none⟩ = some (.int .u64 a5) := (blk_cell c0 5).trans rfl
  clear c0 b0 b1 b2 b3 b4 b5
  have HN1 := Aside0.mk (HN.out.below HB1.out)
  have HR1 := Aside0.mk (Kd.R_below HRI.out HB1.out)
  have f1 := (HN1.out.elem i HI.out).2.2.2.2
  go_region_with (first
    | (go_at_call 73; refine (block_Apply.calls k Ai ci y a0 a1 a2 a3 a4 a5 e _ ?hC ?hL HE.out).mono ?_; (case hC => exact Kd.C_below (Kd.R_reads' HR1.out).2.2 (by repeat (first | exact Below.refl _ _ | apply y1_ | apply y2_ | apply y3_))); (case hL => exact (Kd.R_reads' HR1.out).2.1); rintro x w2 ⟨v2, rfl, hR2, hB2⟩; have HB2 := Aside0.mk (below_step (show Below w1.heap.size w1 _ from by repeat (first | exact Below.refl _ _ | apply y1_ | apply y2_ | apply y3_)) hB2); have HN2 := Aside0.mk (HN1.out.below HB2.out); have HR2 := Aside0.mk (Kd.R_lower hR2 (show base ≤ _ from Nat.le_trans HBW.out (Nat.le_trans HB1.out.size (below_size (show Below w1.heap.size w1 _ from by repeat (first | exact Below.refl _ _ | apply y1_ | apply y2_ | apply y3_)))))); obtain ⟨Aa, ca, rfl⟩ := Kd.R_slice hR2; obtain ⟨-, -, -, ⟨Ax, cx, hx2, hrx⟩, hf2⟩ := HN2.out.elem i HI.out; clear hrx hR2 hB2; rw [HY.out] at hx2))
  all_goals (
    have HN3 := Aside0.mk (show NR k85 85 74 (w2.setCell ⟨g, i, none⟩ (.slice Aa e.length ca)) base (.slice (some ⟨g, 0, none⟩) l0.length c) (l0.set i e) from HN2.out.set api_Entry_95.ne i ((Aa, e.length, ca) : Hd) (y := e) HR2.out)
    have HB3 := Aside0.mk ((((HB1.out.mono HBW.out)).trans (HB2.out.mono (Nat.le_trans HBW.out HB1.out.size))).grown (set_grown g i (.slice Aa e.length ca)) (Nat.le_trans HBW.out (Nat.le_trans HB1.out.size HB2.out.size)) (fun q hq => by cases hq; exact HBG.out))
    have HX3 := Aside0.mk ((Below.heap_setCell w2 ⟨g, i, none⟩ (.slice Aa e.length ca) w.heap.size (show w.heap.size ≠ g from Nat.ne_of_gt HGL.out)).trans ((HB2.out.block w.heap.size (blk_lt HX1.out)).trans HX1.out))
    have f3 := leaf_point.cell HN2.out i HI.out (.slice Aa e.length ca)
    have f4 := (HN3.out.elem i (by rw [HSL.out]; exact HI.out)).2.2.2.2
    clear hx2 hf2 k1 f1 HN1 HN2 HR2 HB2 HB1 HX1)
  all_goals (
    have HRE := Aside0.mk (show Kd.R k85 85 (w2.setCell ⟨g, i, none⟩ (.slice Aa e.length ca)) base (fun _ => True) (.slice Aa e.length ca) e from by
      obtain ⟨-, -, -, ⟨Ax, cx, hx, hrx⟩, -⟩ := HN3.out.elem i (by rw [HSL.out]; exact HI.out)
      rw [HGE.out] at hx hrx
      rw [f3] at hx
      cases hx
      exact hrx))
  all_goals (try go_wp2_with (first
    | (go_at_call 96; refine (block_Halves.calls Aa ca e t1 t2 _ (by exact (Kd.R_reads' HRE.out).2.2) (by exact (Kd.R_reads' HRE.out).2.1) HHH.out).mono ?_; rintro x w3 ⟨v3, v4, rfl, hR3, hR4, hB4⟩; have HN4 := Aside0.mk (HN3.out.below hB4); have HB4 := Aside0.mk (HB3.out.trans (hB4.mono (Nat.le_trans HBW.out HB3.out.size))); have HR3 := Aside0.mk (Kd.R_mono (Kd.R_lower hR3 (Nat.le_trans HBW.out HB3.out.size)) (fun _ _ => trivial)); have HR4 := Aside0.mk (Kd.R_mono (Kd.R_lower hR4 (Nat.le_trans HBW.out HB3.out.size)) (fun _ _ => trivial)); obtain ⟨Ap, cp, rfl⟩ := Kd.R_slice hR3; obtain ⟨Aq, cq, rfl⟩ := Kd.R_slice hR4; have HG3 := Aside0.mk (show g < w3.heap.size from Nat.lt_of_lt_of_le HGL.out HB4.out.size); clear hR3 hR4 hB4)
    | (go_at_call 97; refine (HDL.out _ ((Ap, t1.length, cp) : Hd) ((Aq, t2.length, cq) : Hd) w3.heap.size (by exact HN4.out.below (below_alloc (Below.refl _ _) _)) (by exact Kd.R_below HR3.out (below_alloc (Below.refl _ _) _)) (by exact Kd.R_below HR4.out (below_alloc (Below.refl _ _) _)) (by exact heap_alloc_new _ _) (Nat.ne_of_lt HG3.out)).mono ?_; rintro x w5 ⟨v5, rfl, hN5, hB5⟩; have HN5 := Aside0.mk hN5; have HB5 := Aside0.mk ((HB4.out.alloc (Nat.le_trans HBW.out HB4.out.size) _).trans hB5); clear hN5 hB5)))
  all_goals (go_ret; exact ⟨_, rfl, HN5.out, HB5.out⟩)
set_option maxHeartbeats 16000000 in
set_option maxRecDepth 100000 in
theorem leaf_point.less1 (k : Nat) {w : World} {base : Nat} {v : Value} {l0 : List (List S85)} (h : NR k85 85 74 w base v l0) (a0 a1 : Int) (a2 a3 a4 : ByteArray) (a5 : Int) (most : Int) (i : Nat) (e : List S85) (hb : l0.length < 1000000) (hi : i < l0.length) (hof : leaf_of.f k l0 a2 = some (i : Int)) (he : block_Apply.f k (l0.getD i []) a0 a1 a2 a3 a4 a5 = some e) (h0 : ¬ e.length = 0) (h1 : (e.length : Int) ≤ most) (h2 : e.length < (l0.getD i []).length) (hm : 2 ≤ most) (hm2 : most ≤ 9223372036854775807) (hs : ∀ x ∈ l0.set i e, x.length < 400000) (hc : leaf_weld.can (l0.set i e) (i : Int) most = true) :
    Calls Try.prog 72 #[v, .agg #[.int .u8 a0, .int .i64 a1, .string a2, .string a3, .string a4, .int .u64 a5], .int .i64 most] w fun x w' => ∃ v', x = .returned v' ∧ NR k85 85 74 w' base v' (leaf_weld.w (l0.set i e) (i : Int) most) ∧ Below base w w' := by
  obtain ⟨g, c, rfl, hbg, hgl⟩ := h.form (by omega)
  obtain ⟨hNE, _, _, ⟨Ai, ci, hci, hRi⟩, hfi⟩ := h.elem i hi
  have hC := (Kd.R_reads' (h.to api_Entry_95.ne)).2
  have HN := Aside0.mk h
  have HC := Aside0.mk hC.2
  have HCC := Aside0.mk hC.1
  have HRI := Aside0.mk hRi
  have HBG := Aside0.mk hbg
  have HGL := Aside0.mk hgl
  have HOF := Aside0.mk hof
  have HE := Aside0.mk he
  have HBW := Aside0.mk (show base ≤ w.heap.size from Nat.le_of_lt (Nat.lt_of_le_of_lt hbg hgl))
  have HB0 := Aside0.mk ((Below.refl w.heap.size w).alloc (Nat.le_refl _) (.cells #[.int .u8 a0, .int .i64 a1, .string a2, .string a3, .string a4, .int .u64 a5] 69))
  have HX := Aside0.mk (heap_alloc_new w (.cells #[.int .u8 a0, .int .i64 a1, .string a2, .string a3, .string a4, .int .u64 a5] 69))
  have b0 : (w.alloc (.cells #[.int .u8 a0, .int .i64 a1, .string a2, .string a3, .string a4, .int .u64 a5] 69)).cell? ⟨w.heap.size, 0, none⟩ = some (.int .u8 a0) := (blk_cell HX.out 0).trans rfl
  have b1 : (w.alloc (.cells #[.int .u8 a0, .int .i64 a1, .string a2, .string a3, .string a4, .int .u64 a5] 69)).cell? ⟨w.heap.size, 1, none⟩ = some (.int .i64 a1) := (blk_cell HX.out 1).trans rfl
  have b2 : (w.alloc (.cells #[.int .u8 a0, .int .i64 a1, .string a2, .string a3, .string a4, .int .u64 a5] 69)).cell? ⟨w.heap.size, 2, none⟩ = some (.string a2) := (blk_cell HX.out 2).trans rfl
  have b3 : (w.alloc (.cells #[.int .u8 a0, .int .i64 a1, .string a2, .string a3, .string a4, .int .u64 a5] 69)).cell? ⟨w.heap.size, 3, none⟩ = some (.string a3) := (blk_cell HX.out 3).trans rfl
  have b4 : (w.alloc (.cells #[.int .u8 a0, .int .i64 a1, .string a2, .string a3, .string a4, .int .u64 a5] 69)).cell? ⟨w.heap.size, 4, none⟩ = some (.string a4) := (blk_cell HX.out 4).trans rfl
  have b5 : (w.alloc (.cells #[.int .u8 a0, .int .i64 a1, .string a2, .string a3, .string a4, .int .u64 a5] 69)).cell? ⟨w.heap.size, 5, none⟩ = some (.int .u64 a5) := (blk_cell HX.out 5).trans rfl
  have HCI := Aside0.mk hci
  have HFI := Aside0.mk hfi
  have HI := Aside0.mk hi
  have HHB := Aside0.mk hb
  have HSL : Aside0 ((l0.set i e).length = l0.length) := ⟨List.length_set ..⟩
  have HGE : Aside0 ((l0.set i e).getD i [] = e) := ⟨by rw [List.getD_eq_getElem?_getD, List.getElem?_set_self hi]; rfl⟩
  have p1 : (i : Int) < (l0.length : Int) := by omega
  have p2 : i < l0.length := hi
  have p3 : l0.length ≤ 1000000 := by omega
  have p4 : i ≤ 1000000 := by omega
  have p5 : ((l0.length : Int) == 0) = false := beq_eq_false_iff_ne.2 (by omega)
  have p6 : ¬ ((l0.length : Int) = 0) := by omega
  have p7 : ¬ (l0.length = 0) := by omega
  generalize hy : l0.getD i [] = y at *
  have HY := Aside0.mk hy
  clear h hC hRi hbg hgl hof he hci hfi hi hb hNE hy
  have q1 : ((e.length : Int) == 0) = false := beq_eq_false_iff_ne.2 (by omega)
  have q2 : IntKind.i64.wrap ((i : Int) - 1) = (i : Int) - 1 := by rw [IntKind.wrap_i64]; omega
  have q3 : decide (most < (e.length : Int)) = false := decide_eq_false (by omega)
  have q4 : decide ((e.length : Int) < (y.length : Int)) = true := decide_eq_true (by omega)
  have q5 : decide (e.length < y.length) = true := decide_eq_true (by omega)
  have hlb : (l0.set i e).length < 1000000 := by rw [HSL.out]; exact HHB.out
  have HDL := Aside0.mk (show ∀ (W : World), NR k85 85 74 W base (.slice (some ⟨g, 0, none⟩) l0.length c) (l0.set i e) → Calls Try.prog 98 #[(.slice (some ⟨g, 0, none⟩) l0.length c), .int .i64 (i : Int), .int .i64 most] W fun x w' => ∃ v', x = .returned (.tuple #[v', .bool true]) ∧ NR k85 85 74 w' base v' (leaf_weld.w (l0.set i e) (i : Int) most) ∧ Below base W w' from fun W hN => by
    have h_ := leaf_weld.does hN (i : Int) most hlb (by omega) hm hm2 hs
    rwa [hc] at h_)
  clear h0 h1 h2 hs hc hlb
  go_enter Try.func72, Try.ntmps72
  go_wp2_with (go_at_call 83; refine (leaf_of.calls k (some ⟨g, 0, none⟩) c l0 a2 (i : Int) _ (by exact Kd.C_below HC.out HB0.out) HCC.out HOF.out).mono ?_; rintro x w1 ⟨rfl, hB1⟩; have HB1 := Aside0.mk (HB0.out.trans (hB1.mono HB0.out.size)); have HX1 := Aside0.mk ((hB1.block w.heap.size (by simp)).trans HX.out); have k1 := c1_ HB1 HCI.out; clear hB1)
  have c0 := (HX1.out : w1.heap[w.heap.size]? = _)
  have d0 : w1.cell? ⟨w.heap.size, 0, none⟩ = some (.int .u8 a0) := (blk_cell c0 0).trans rfl
  have d1 : w1.cell? ⟨w.heap.size, 1, none⟩ = some (.int .i64 a1) := (blk_cell c0 1).trans rfl
  have d2 : w1.cell? ⟨w.heap.size, 2, none⟩ = some (.string a2) := (blk_cell c0 2).trans rfl
  have d3 : w1.cell? ⟨w.heap.size, 3, none⟩ = some (.string a3) := (blk_cell c0 3).trans rfl
  have d4 : w1.cell? ⟨w.heap.size, 4, none⟩ = some (.string a4) := (blk_cell c0 4).trans rfl
  have d5 : w1.cell? ⟨w.heap.size, 5, none⟩ = some (.int .u64 a5) := (blk_cell c0 5).trans rfl
  clear c0 b0 b1 b2 b3 b4 b5
  have HN1 := Aside0.mk (HN.out.below HB1.out)
  have HR1 := Aside0.mk (Kd.R_below HRI.out HB1.out)
  have f1 := (HN1.out.elem i HI.out).2.2.2.2
  go_region_with (first
    | (go_at_call 73; refine (block_Apply.calls k Ai ci y a0 a1 a2 a3 a4 a5 e _ ?hC ?hL HE.out).mono ?_; (case hC => exact Kd.C_below (Kd.R_reads' HR1.out).2.2 (by repeat (first | exact Below.refl _ _ | apply y1_ | apply y2_ | apply y3_))); (case hL => exact (Kd.R_reads' HR1.out).2.1); rintro x w2 ⟨v2, rfl, hR2, hB2⟩; have HB2 := Aside0.mk (below_step (show Below w1.heap.size w1 _ from by repeat (first | exact Below.refl _ _ | apply y1_ | apply y2_ | apply y3_)) hB2); have HN2 := Aside0.mk (HN1.out.below HB2.out); have HR2 := Aside0.mk (Kd.R_lower hR2 (show base ≤ _ from Nat.le_trans HBW.out (Nat.le_trans HB1.out.size (below_size (show Below w1.heap.size w1 _ from by repeat (first | exact Below.refl _ _ | apply y1_ | apply y2_ | apply y3_)))))); obtain ⟨Aa, ca, rfl⟩ := Kd.R_slice hR2; obtain ⟨-, -, -, ⟨Ax, cx, hx2, hrx⟩, hf2⟩ := HN2.out.elem i HI.out; clear hrx hR2 hB2; rw [HY.out] at hx2))
  all_goals (
    have HN3 := Aside0.mk (show NR k85 85 74 (w2.setCell ⟨g, i, none⟩ (.slice Aa e.length ca)) base (.slice (some ⟨g, 0, none⟩) l0.length c) (l0.set i e) from HN2.out.set api_Entry_95.ne i ((Aa, e.length, ca) : Hd) (y := e) HR2.out)
    have HB3 := Aside0.mk ((((HB1.out.mono HBW.out)).trans (HB2.out.mono (Nat.le_trans HBW.out HB1.out.size))).grown (set_grown g i (.slice Aa e.length ca)) (Nat.le_trans HBW.out (Nat.le_trans HB1.out.size HB2.out.size)) (fun q hq => by cases hq; exact HBG.out))
    have HX3 := Aside0.mk ((Below.heap_setCell w2 ⟨g, i, none⟩ (.slice Aa e.length ca) w.heap.size (show w.heap.size ≠ g from Nat.ne_of_gt HGL.out)).trans ((HB2.out.block w.heap.size (blk_lt HX1.out)).trans HX1.out))
    have f3 := leaf_point.cell HN2.out i HI.out (.slice Aa e.length ca)
    have f4 := (HN3.out.elem i (by rw [HSL.out]; exact HI.out)).2.2.2.2
    clear hx2 hf2 k1 f1 HN1 HN2 HR2 HB2 HB1 HX1)
  all_goals (try go_wp2_with (go_at_call 98; refine (HDL.out _ HN3.out).mono ?_; rintro x w3 ⟨v3, rfl, hN4, hB4⟩; have HN4 := Aside0.mk hN4; have HB4 := Aside0.mk (HB3.out.trans hB4); clear hN4 hB4))
  all_goals (go_ret; exact ⟨_, rfl, HN4.out, HB4.out⟩)
set_option maxHeartbeats 16000000 in
set_option maxRecDepth 100000 in
theorem leaf_point.less2 (k : Nat) {w : World} {base : Nat} {v : Value} {l0 : List (List S85)} (h : NR k85 85 74 w base v l0) (a0 a1 : Int) (a2 a3 a4 : ByteArray) (a5 : Int) (most : Int) (i : Nat) (e : List S85) (hb : l0.length < 1000000) (hi : i < l0.length) (hof : leaf_of.f k l0 a2 = some (i : Int)) (he : block_Apply.f k (l0.getD i []) a0 a1 a2 a3 a4 a5 = some e) (h0 : ¬ e.length = 0) (h1 : (e.length : Int) ≤ most) (h2 : e.length < (l0.getD i []).length) (hm : 2 ≤ most) (hm2 : most ≤ 9223372036854775807) (hs : ∀ x ∈ l0.set i e, x.length < 400000) (hc : leaf_weld.can (l0.set i e) (i : Int) most = false) :
    Calls Try.prog 72 #[v, .agg #[.int .u8 a0, .int .i64 a1, .string a2, .string a3, .string a4, .int .u64 a5], .int .i64 most] w fun x w' => ∃ v', x = .returned v' ∧ NR k85 85 74 w' base v' (leaf_weld.w (l0.set i e) ((i : Int) - 1) most) ∧ Below base w w' := by
  obtain ⟨g, c, rfl, hbg, hgl⟩ := h.form (by omega)
  obtain ⟨hNE, _, _, ⟨Ai, ci, hci, hRi⟩, hfi⟩ := h.elem i hi
  have hC := (Kd.R_reads' (h.to api_Entry_95.ne)).2
  have HN := Aside0.mk h
  have HC := Aside0.mk hC.2
  have HCC := Aside0.mk hC.1
  have HRI := Aside0.mk hRi
  have HBG := Aside0.mk hbg
  have HGL := Aside0.mk hgl
  have HOF := Aside0.mk hof
  have HE := Aside0.mk he
  have HBW := Aside0.mk (show base ≤ w.heap.size from Nat.le_of_lt (Nat.lt_of_le_of_lt hbg hgl))
  have HB0 := Aside0.mk ((Below.refl w.heap.size w).alloc (Nat.le_refl _) (.cells #[.int .u8 a0, .int .i64 a1, .string a2, .string a3, .string a4, .int .u64 a5] 69))
  have HX := Aside0.mk (heap_alloc_new w (.cells #[.int .u8 a0, .int .i64 a1, .string a2, .string a3, .string a4, .int .u64 a5] 69))
  have b0 : (w.alloc (.cells #[.int .u8 a0, .int .i64 a1, .string a2, .string a3, .string a4, .int .u64 a5] 69)).cell? ⟨w.heap.size, 0, none⟩ = some (.int .u8 a0) := (blk_cell HX.out 0).trans rfl
  have b1 : (w.alloc (.cells #[.int .u8 a0, .int .i64 a1, .string a2, .string a3, .string a4, .int .u64 a5] 69)).cell? ⟨w.heap.size, 1, none⟩ = some (.int .i64 a1) := (blk_cell HX.out 1).trans rfl
  have b2 : (w.alloc (.cells #[.int .u8 a0, .int .i64 a1, .string a2, .string a3, .string a4, .int .u64 a5] 69)).cell? ⟨w.heap.size, 2, none⟩ = some (.string a2) := (blk_cell HX.out 2).trans rfl
  have b3 : (w.alloc (.cells #[.int .u8 a0, .int .i64 a1, .string a2, .string a3, .string a4, .int .u64 a5] 69)).cell? ⟨w.heap.size, 3, none⟩ = some (.string a3) := (blk_cell HX.out 3).trans rfl
  have b4 : (w.alloc (.cells #[.int .u8 a0, .int .i64 a1, .string a2, .string a3, .string a4, .int .u64 a5] 69)).cell? ⟨w.heap.size, 4, none⟩ = some (.string a4) := (blk_cell HX.out 4).trans rfl
  have b5 : (w.alloc (.cells #[.int .u8 a0, .int .i64 a1, .string a2, .string a3, .string a4, .int .u64 a5] 69)).cell? ⟨w.heap.size, 5, none⟩ = some (.int .u64 a5) := (blk_cell HX.out 5).trans rfl
  have HCI := Aside0.mk hci
  have HFI := Aside0.mk hfi
  have HI := Aside0.mk hi
  have HHB := Aside0.mk hb
  have HSL : Aside0 ((l0.set i e).length = l0.length) := ⟨List.length_set ..⟩
  have HGE : Aside0 ((l0.set i e).getD i [] = e) := ⟨by rw [List.getD_eq_getElem?_getD, List.getElem?_set_self hi]; rfl⟩
  have p1 : (i : Int) < (l0.length : Int) := by omega
  have p2 : i < l0.length := hi
  have p3 : l0.length ≤ 1000000 := by omega
  have p4 : i ≤ 1000000 := by omega
  have p5 : ((l0.length : Int) == 0) = false := beq_eq_false_iff_ne.2 (by omega)
  have p6 : ¬ ((l0.length : Int) = 0) := by omega
  have p7 : ¬ (l0.length = 0) := by omega
  generalize hy : l0.getD i [] = y at *
  have HY := Aside0.mk hy
  clear h hC hRi hbg hgl hof he hci hfi hi hb hNE hy
  have q1 : ((e.length : Int) == 0) = false := beq_eq_false_iff_ne.2 (by omega)
  have q2 : IntKind.i64.wrap ((i : Int) - 1) = (i : Int) - 1 := by rw [IntKind.wrap_i64]; omega
  have q3 : decide (most < (e.length : Int)) = false := decide_eq_false (by omega)
  have q4 : decide ((e.length : Int) < (y.length : Int)) = true := decide_eq_true (by omega)
  have q5 : decide (e.length < y.length) = true := decide_eq_true (by omega)
  have hlb : (l0.set i e).length < 1000000 := by rw [HSL.out]; exact HHB.out
  have HDN := Aside0.mk (show ∀ (W : World), NR k85 85 74 W base (.slice (some ⟨g, 0, none⟩) l0.length c) (l0.set i e) → Calls Try.prog 98 #[(.slice (some ⟨g, 0, none⟩) l0.length c), .int .i64 (i : Int), .int .i64 most] W fun x w' => x = .returned (.tuple #[(.slice (some ⟨g, 0, none⟩) l0.length c), .bool false]) ∧ ∃ q, w' = W.drewN q from fun W hN => leaf_point.wno hN (i : Int) most hlb (by omega) hm hm2 hs hc)
  have HDL := Aside0.mk (show ∀ (W : World), NR k85 85 74 W base (.slice (some ⟨g, 0, none⟩) l0.length c) (l0.set i e) → Calls Try.prog 98 #[(.slice (some ⟨g, 0, none⟩) l0.length c), .int .i64 ((i : Int) - 1), .int .i64 most] W fun x w' => ∃ v', x = .returned (.tuple #[v', .bool (leaf_weld.can (l0.set i e) ((i : Int) - 1) most)]) ∧ NR k85 85 74 w' base v' (leaf_weld.w (l0.set i e) ((i : Int) - 1) most) ∧ Below base W w' from fun W hN => leaf_weld.does hN ((i : Int) - 1) most hlb (by omega) hm hm2 hs)
  clear h0 h1 h2 hs hc hlb
  go_enter Try.func72, Try.ntmps72
  go_wp2_with (go_at_call 83; refine (leaf_of.calls k (some ⟨g, 0, none⟩) c l0 a2 (i : Int) _ (by exact Kd.C_below HC.out HB0.out) HCC.out HOF.out).mono ?_; rintro x w1 ⟨rfl, hB1⟩; have HB1 := Aside0.mk (HB0.out.trans (hB1.mono HB0.out.size)); have HX1 := Aside0.mk ((hB1.block w.heap.size (by simp)).trans HX.out); have k1 := c1_ HB1 HCI.out; clear hB1)
  have c0 := (HX1.out : w1.heap[w.heap.size]? = _)
  have d0 : w1.cell? ⟨w.heap.size, 0, none⟩ = some (.int .u8 a0) := (blk_cell c0 0).trans rfl
  have d1 : w1.cell? ⟨w.heap.size, 1, none⟩ = some (.int .i64 a1) := (blk_cell c0 1).trans rfl
  have d2 : w1.cell? ⟨w.heap.size, 2, none⟩ = some (.string a2) := (blk_cell c0 2).trans rfl
  have d3 : w1.cell? ⟨w.heap.size, 3, none⟩ = some (.string a3) := (blk_cell c0 3).trans rfl
  have d4 : w1.cell? ⟨w.heap.size, 4, none⟩ = some (.string a4) := (blk_cell c0 4).trans rfl
  have d5 : w1.cell? ⟨w.heap.size, 5, none⟩ = some (.int .u64 a5) := (blk_cell c0 5).trans rfl
  clear c0 b0 b1 b2 b3 b4 b5
  have HN1 := Aside0.mk (HN.out.below HB1.out)
  have HR1 := Aside0.mk (Kd.R_below HRI.out HB1.out)
  have f1 := (HN1.out.elem i HI.out).2.2.2.2
  go_region_with (first
    | (go_at_call 73; refine (block_Apply.calls k Ai ci y a0 a1 a2 a3 a4 a5 e _ ?hC ?hL HE.out).mono ?_; (case hC => exact Kd.C_below (Kd.R_reads' HR1.out).2.2 (by repeat (first | exact Below.refl _ _ | apply y1_ | apply y2_ | apply y3_))); (case hL => exact (Kd.R_reads' HR1.out).2.1); rintro x w2 ⟨v2, rfl, hR2, hB2⟩; have HB2 := Aside0.mk (below_step (show Below w1.heap.size w1 _ from by repeat (first | exact Below.refl _ _ | apply y1_ | apply y2_ | apply y3_)) hB2); have HN2 := Aside0.mk (HN1.out.below HB2.out); have HR2 := Aside0.mk (Kd.R_lower hR2 (show base ≤ _ from Nat.le_trans HBW.out (Nat.le_trans HB1.out.size (below_size (show Below w1.heap.size w1 _ from by repeat (first | exact Below.refl _ _ | apply y1_ | apply y2_ | apply y3_)))))); obtain ⟨Aa, ca, rfl⟩ := Kd.R_slice hR2; obtain ⟨-, -, -, ⟨Ax, cx, hx2, hrx⟩, hf2⟩ := HN2.out.elem i HI.out; clear hrx hR2 hB2; rw [HY.out] at hx2))
  all_goals (
    have HN3 := Aside0.mk (show NR k85 85 74 (w2.setCell ⟨g, i, none⟩ (.slice Aa e.length ca)) base (.slice (some ⟨g, 0, none⟩) l0.length c) (l0.set i e) from HN2.out.set api_Entry_95.ne i ((Aa, e.length, ca) : Hd) (y := e) HR2.out)
    have HB3 := Aside0.mk ((((HB1.out.mono HBW.out)).trans (HB2.out.mono (Nat.le_trans HBW.out HB1.out.size))).grown (set_grown g i (.slice Aa e.length ca)) (Nat.le_trans HBW.out (Nat.le_trans HB1.out.size HB2.out.size)) (fun q hq => by cases hq; exact HBG.out))
    have HX3 := Aside0.mk ((Below.heap_setCell w2 ⟨g, i, none⟩ (.slice Aa e.length ca) w.heap.size (show w.heap.size ≠ g from Nat.ne_of_gt HGL.out)).trans ((HB2.out.block w.heap.size (blk_lt HX1.out)).trans HX1.out))
    have f3 := leaf_point.cell HN2.out i HI.out (.slice Aa e.length ca)
    have f4 := (HN3.out.elem i (by rw [HSL.out]; exact HI.out)).2.2.2.2
    clear hx2 hf2 k1 f1 HN1 HN2 HR2 HB2 HB1 HX1)
  all_goals (try go_wp2_with (first
    | (go_at_call 98; refine (HDL.out _ HN4.out).mono ?_; rintro x w4 ⟨v4, rfl, hN5, hB5⟩; have HN5 := Aside0.mk hN5; have HB5 := Aside0.mk (HB4.out.trans hB5); clear hN5 hB5)
    | (go_at_call 98; refine (HDN.out _ HN3.out).mono ?_; rintro x w3 ⟨rfl, q, rfl⟩; have HN4 := Aside0.mk (HN3.out.below (pw_below_drewN (Below.refl _ _) q)); have HB4 := Aside0.mk (HB3.out.trans ((pw_below_drewN (Below.refl _ _) q : Below (w2.setCell ⟨g, i, none⟩ (.slice Aa e.length ca)).heap.size _ _).mono (Nat.le_trans HBW.out HB3.out.size))))))
  all_goals (go_ret; exact ⟨_, rfl, HN5.out, HB5.out⟩)
/-- point, whatever it is asked -/
theorem leaf_point.calls (k : Nat) {w : World} {base : Nat} {v : Value} {l0 : List (List S85)} (h : NR k85 85 74 w base v l0) (a0 a1 : Int) (a2 a3 a4 : ByteArray) (a5 : Int) (most : Int) (r : List (List S85)) (hb : l0.length < 1000000) (hbw : base ≤ w.heap.size) (hm : 2 ≤ most) (hm2 : most ≤ 9223372036854775807) (hr : leaf_point.f k l0 a0 a1 a2 a3 a4 a5 most = some r) :
    Calls Try.prog 72 #[v, .agg #[.int .u8 a0, .int .i64 a1, .string a2, .string a3, .string a4, .int .u64 a5], .int .i64 most] w fun x w' => ∃ v', x = .returned v' ∧ NR k85 85 74 w' base v' r ∧ Below base w w' := by
  unfold leaf_point.f at hr
  by_cases h0 : l0.length = 0
  · rw [if_pos h0] at hr
    obtain ⟨e, he, hr⟩ := Option.bind_eq_some_iff.mp hr
    cases hr
    have hl : l0 = [] := List.eq_nil_of_length_eq_zero h0
    subst hl
    exact leaf_point.empty k h a0 a1 a2 a3 a4 a5 most e hbw he
  · rw [if_neg h0] at hr
    obtain ⟨z, hof, hr⟩ := Option.bind_eq_some_iff.mp hr
    by_cases hz : 0 ≤ z ∧ z < (l0.length : Int)
    · rw [if_pos hz] at hr
      obtain ⟨i, rfl⟩ := Int.eq_ofNat_of_zero_le hz.1
      rw [Int.toNat_natCast] at hr
      have hi : i < l0.length := by omega
      obtain ⟨e, he, hr⟩ := Option.bind_eq_some_iff.mp hr
      by_cases hs : ((l0.set i e).all fun x => decide (x.length < 400000)) = true
      · rw [if_pos hs] at hr
        have hs2 : ∀ x ∈ l0.set i e, x.length < 400000 := fun x hx => of_decide_eq_true (List.all_eq_true.mp hs x hx)
        unfold leaf_point.tail at hr
        by_cases c0 : e.length = 0
        · rw [if_pos c0] at hr
          cases hr
          exact leaf_point.gone k h a0 a1 a2 a3 a4 a5 most i e hb hi hof he c0
        · rw [if_neg c0] at hr
          by_cases c1 : most < (e.length : Int)
          · rw [if_pos c1] at hr
            obtain ⟨⟨t1, t2⟩, ht, hr⟩ := Option.bind_eq_some_iff.mp hr
            cases hr
            exact leaf_point.more k h a0 a1 a2 a3 a4 a5 most i e hb hi hof he c0 c1 t1 t2 ht
          · rw [if_neg c1] at hr
            by_cases c2 : e.length < (l0.getD i []).length
            · rw [if_pos c2] at hr
              by_cases c3 : leaf_weld.can (l0.set i e) (i : Int) most = true
              · rw [if_pos c3] at hr
                cases hr
                exact leaf_point.less1 k h a0 a1 a2 a3 a4 a5 most i e hb hi hof he c0 (by omega) c2 hm hm2 hs2 c3
              · rw [if_neg c3] at hr
                cases hr
                exact leaf_point.less2 k h a0 a1 a2 a3 a4 a5 most i e hb hi hof he c0 (by omega) c2 hm hm2 hs2 (by simpa using c3)
            · rw [if_neg c2] at hr
              cases hr
              exact leaf_point.stay k h a0 a1 a2 a3 a4 a5 most i e hb hi hof he c0 (by omega) (by omega)
      · rw [if_neg hs] at hr
        cases hr
    · rw [if_neg hz] at hr
      cases hr

end Go.Proofs.Ytpfikmchimlneaa.M3
