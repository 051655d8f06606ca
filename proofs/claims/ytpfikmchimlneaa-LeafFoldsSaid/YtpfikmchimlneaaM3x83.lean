-- written by a program of this session (wip/myprint.py), over the kit's printer and the session's own contracts
import Derived.Test.YtpfikmchimlneaaM3x0
import Derived.Test.YtpfikmchimlneaaM3P0
import Derived.Test.YtpfikmchimlneaaM3x79
import Derived.Test.YtpfikmchimlneaaM3x81
import Derived.Test.YtpfikmchimlneaaM3x82
namespace Go.Proofs.Ytpfikmchimlneaa.M3
open Go.RowKit Go.Proofs.YtpfikmchimlneaaW.PrintWords Go.Proofs.YtpfikmchimlneaaW.PrintLast Go.Proofs.YtpfikmchimlneaaW.PrintMore Go.Proofs.YtpfikmchimlneaaW.Mine
attribute [local go_sem] max2_int min2_int max_two min_two max_three min_three max_four min_four max2_str min2_str binOp_gtr_str binOp_leq_str binOp_geq_str   -- for this text's walks alone
set_option linter.unusedVariables false
set_option linter.unusedSimpArgs false

/-! ### catchmentref11_Apply: function 33 -/
-- over catchmentref11_point, catchmentref11_both, catchmentref11_one, catchmentref04_Point
open Go.Proofs.YtpfikmchimlneaaW.Sl
/-- what a message makes of a row, by definition -/
inductive catchmentref11_Apply.Step (k : Nat) (most : Int) (m : S69) : List (List S85) → List (List S85) → Prop
  | nil (x : List S85) : catchmentref04_Point.f m.f0 m.f1 m.f2 m.f3 m.f4 m.f5 = some true → catchmentref11_one.f k [] m.f0 m.f1 m.f2 m.f3 m.f4 m.f5 = some x → Step k most m [] (if x.length = 0 then [] else [x])
  | point (P : List (List S85)) (e : List S85) (C : List (List S85)) (x : List S85) : catchmentref04_Point.f m.f0 m.f1 m.f2 m.f3 m.f4 m.f5 = some true → (P ++ e :: C).length < 1000000 → (∀ y ∈ P ++ e :: C, y ≠ []) → (∀ y ∈ P ++ e :: C, y.length < 300000) → (P ≠ [] → Op.bytesLess m.f2.toList (catchmentref11_point.hk e) = false) → (∀ y ∈ C, Op.bytesLess m.f2.toList (catchmentref11_point.hk y) = true) → x.length < 300000 → catchmentref11_one.f k e m.f0 m.f1 m.f2 m.f3 m.f4 m.f5 = some x → Step k most m (P ++ e :: C) (catchmentref11_point.res P e C x (max most 2))
  | other (l : List (List S85)) (g : List S85 → List S85) : catchmentref04_Point.f m.f0 m.f1 m.f2 m.f3 m.f4 m.f5 = some false → l.length < 1000000 → (∀ y ∈ l, catchmentref11_one.f k y m.f0 m.f1 m.f2 m.f3 m.f4 m.f5 = some (g y)) → Step k most m l ((l.map g).filter fun y => decide (0 < y.length))
set_option maxHeartbeats 16000000 in
set_option maxRecDepth 100000 in
theorem catchmentref11_Apply.pt {w : World} {A : Option Addr} {c : Nat} {l r : List (List S85)} (hV : catchmentref11_both.VV w (.slice A l.length c) l) (m : S69) (most : Int) (hm2 : most ≤ 9223372036854775807) (hp : catchmentref04_Point.f m.f0 m.f1 m.f2 m.f3 m.f4 m.f5 = some true)
    (hpt : ∀ W : World, Below w.heap.size w W → Calls Try.prog 68 #[.slice A l.length c, .agg #[.int .u8 m.f0, .int .i64 m.f1, .string m.f2, .string m.f3, .string m.f4, .int .u64 m.f5], .int .i64 (max most 2)] W fun e' w' => ∃ v', e' = .returned v' ∧ catchmentref11_both.VV w' v' r ∧ Below W.heap.size W w') :
    Calls Try.prog 33 #[.slice A l.length c, .agg #[.int .u8 m.f0, .int .i64 m.f1, .string m.f2, .string m.f3, .string m.f4, .int .u64 m.f5], .int .i64 most] w fun e' w' => ∃ v', e' = .returned v' ∧ catchmentref11_both.VV w' v' r ∧ Below w.heap.size w w' := by
  have HP := Aside0.mk hp
  have HPT := Aside0.mk hpt
  have HB0 := Aside0.mk (show Below w.heap.size w (w.alloc (.cells #[.int .u8 m.f0, .int .i64 m.f1, .string m.f2, .string m.f3, .string m.f4, .int .u64 m.f5] 69)) from (Below.refl _ _).alloc (Nat.le_refl _) _)
  obtain ⟨n, hn⟩ : ∃ n, l.length = n := ⟨_, rfl⟩
  rw [hn] at HPT ⊢
  clear hp hpt hV hn
  by_cases h2 : most < 2
  · have b2 : decide (most < 2) = true := decide_eq_true h2
    have hmx : max most 2 = 2 := by omega
    rw [hmx] at HPT
    clear h2 hmx
    go_enter Try.func33, Try.ntmps33
    go_wp2_with (first
      | (go_at_call 67; refine (catchmentref04_Point.calls m.f0 m.f1 m.f2 m.f3 m.f4 m.f5 true _ HP.out).mono ?_; rintro e4 w4 ⟨rfl, hb4⟩; have HB4 := Aside0.mk (HB0.out.trans (hb4.mono HB0.out.size)); have hX4 := (hb4.block _ (blk_lt (heap_alloc_new w _))).trans (heap_alloc_new w _); have d0 : w4.cell? ⟨w.heap.size, 0, none⟩ = some (.int .u8 m.f0) := (blk_cell hX4 0).trans rfl; have d1 : w4.cell? ⟨w.heap.size, 1, none⟩ = some (.int .i64 m.f1) := (blk_cell hX4 1).trans rfl; have d2 : w4.cell? ⟨w.heap.size, 2, none⟩ = some (.string m.f2) := (blk_cell hX4 2).trans rfl; have d3 : w4.cell? ⟨w.heap.size, 3, none⟩ = some (.string m.f3) := (blk_cell hX4 3).trans rfl; have d4 : w4.cell? ⟨w.heap.size, 4, none⟩ = some (.string m.f4) := (blk_cell hX4 4).trans rfl; have d5 : w4.cell? ⟨w.heap.size, 5, none⟩ = some (.int .u64 m.f5) := (blk_cell hX4 5).trans rfl; clear hb4 hX4)
      | (go_at_call 68; refine (HPT.out _ HB4.out).mono ?_; rintro e5 w5 ⟨v5, rfl, hV5, hB5⟩; have HV5 := Aside0.mk hV5; have HB5 := Aside0.mk (HB4.out.trans (hB5.mono HB4.out.size)); clear hV5 hB5))
    go_ret
    exact ⟨_, rfl, HV5.out, HB5.out⟩
  · have b2 : decide (most < 2) = false := decide_eq_false h2
    have hmx : max most 2 = most := by omega
    rw [hmx] at HPT
    clear h2 hmx
    go_enter Try.func33, Try.ntmps33
    go_wp2_with (first
      | (go_at_call 67; refine (catchmentref04_Point.calls m.f0 m.f1 m.f2 m.f3 m.f4 m.f5 true _ HP.out).mono ?_; rintro e4 w4 ⟨rfl, hb4⟩; have HB4 := Aside0.mk (HB0.out.trans (hb4.mono HB0.out.size)); have hX4 := (hb4.block _ (blk_lt (heap_alloc_new w _))).trans (heap_alloc_new w _); have d0 : w4.cell? ⟨w.heap.size, 0, none⟩ = some (.int .u8 m.f0) := (blk_cell hX4 0).trans rfl; have d1 : w4.cell? ⟨w.heap.size, 1, none⟩ = some (.int .i64 m.f1) := (blk_cell hX4 1).trans rfl; have d2 : w4.cell? ⟨w.heap.size, 2, none⟩ = some (.string m.f2) := (blk_cell hX4 2).trans rfl; have d3 : w4.cell? ⟨w.heap.size, 3, none⟩ = some (.string m.f3) := (blk_cell hX4 3).trans rfl; have d4 : w4.cell? ⟨w.heap.size, 4, none⟩ = some (.string m.f4) := (blk_cell hX4 4).trans rfl; have d5 : w4.cell? ⟨w.heap.size, 5, none⟩ = some (.int .u64 m.f5) := (blk_cell hX4 5).trans rfl; clear hb4 hX4)
      | (go_at_call 68; refine (HPT.out _ HB4.out).mono ?_; rintro e5 w5 ⟨v5, rfl, hV5, hB5⟩; have HV5 := Aside0.mk hV5; have HB5 := Aside0.mk (HB4.out.trans (hB5.mono HB4.out.size)); clear hV5 hB5))
    go_ret
    exact ⟨_, rfl, HV5.out, HB5.out⟩
theorem catchmentref11_Apply.fil {l : List (List S85)} (g : List S85 → List S85) (j : Nat) (hj : j < l.length) : ((l.take (j + 1)).map g).filter (fun y => decide (0 < y.length)) = ((l.take j).map g).filter (fun y => decide (0 < y.length)) ++ (if 0 < (g (rd_L2 l (j : Int))).length then [g (rd_L2 l (j : Int))] else []) := by
  have h : rd_L2 l (j : Int) = l[j] := by
    unfold rd_L2
    rw [Int.toNat_natCast, List.getD_eq_getElem?_getD, List.getElem?_eq_getElem hj]
    rfl
  rw [h, List.take_add_one, List.getElem?_eq_getElem hj, Option.toList_some, List.map_append, List.filter_append]
  congr 1
  by_cases hp : 0 < (g l[j]).length
  · rw [if_pos hp, List.map_singleton, List.filter_cons, if_pos (decide_eq_true hp)]
    rfl
  · rw [if_neg hp, List.map_singleton, List.filter_cons, if_neg (by rw [decide_eq_false hp]; decide)]
    rfl
theorem catchmentref11_Apply.nlen {l : List (List S85)} (g : List S85 → List S85) (j : Nat) : (((l.take j).map g).filter (fun y => decide (0 < y.length))).length ≤ l.length := by
  refine Nat.le_trans (List.length_filter_le _ _) ?_
  rw [List.length_map, List.length_take]
  exact Nat.min_le_right _ _
set_option maxHeartbeats 16000000 in
set_option maxRecDepth 100000 in
theorem catchmentref11_Apply.oth {w : World} {A : Option Addr} {c : Nat} {l : List (List S85)} (hV : catchmentref11_both.VV w (.slice A l.length c) l) (m : S69) (most : Int) (hm2 : most ≤ 9223372036854775807) (k : Nat) (g : List S85 → List S85) (hp : catchmentref04_Point.f m.f0 m.f1 m.f2 m.f3 m.f4 m.f5 = some false) (hl : l.length < 1000000) (hg : ∀ y ∈ l, catchmentref11_one.f k y m.f0 m.f1 m.f2 m.f3 m.f4 m.f5 = some (g y)) (b : Bool) (hb : decide (most < 2) = b) :
    Calls Try.prog 33 #[.slice A l.length c, .agg #[.int .u8 m.f0, .int .i64 m.f1, .string m.f2, .string m.f3, .string m.f4, .int .u64 m.f5], .int .i64 most] w fun e' w' => ∃ v', e' = .returned v' ∧ catchmentref11_both.VV w' v' ((l.map g).filter fun y => decide (0 < y.length)) ∧ Below w.heap.size w w' := by
  obtain ⟨rr, hrr⟩ : ∃ rr, (l.map g).filter (fun y => decide (0 < y.length)) = rr := ⟨_, rfl⟩
  rw [hrr]
  have HRR := Aside0.mk hrr
  have HP := Aside0.mk hp
  have HG := Aside0.mk hg
  have HV := Aside0.mk hV
  have HLE := Aside0.mk hl
  have hX0 := heap_alloc_new w (.cells #[.int .u8 m.f0, .int .i64 m.f1, .string m.f2, .string m.f3, .string m.f4, .int .u64 m.f5] 69)
  have HX0 := Aside0.mk hX0
  have HB0 := Aside0.mk (show Below w.heap.size w (w.alloc (.cells #[.int .u8 m.f0, .int .i64 m.f1, .string m.f2, .string m.f3, .string m.f4, .int .u64 m.f5] 69)) from (Below.refl _ _).alloc (Nat.le_refl _) _)
  obtain ⟨n, hn⟩ : ∃ n, l.length = n := ⟨_, rfl⟩
  have HN := Aside0.mk hn
  rw [hn]
  have hn9 : n ≤ 9223372036854775807 := by omega
  clear hp hg hV hl hX0 hn hrr
  cases b
  all_goals (
    go_enter Try.func33, Try.ntmps33
    go_wp2_with (first
      | (go_at_call 67; refine (catchmentref04_Point.calls m.f0 m.f1 m.f2 m.f3 m.f4 m.f5 false _ HP.out).mono ?_; rintro e4 w4 ⟨rfl, hb4⟩; have HB4 := Aside0.mk (HB0.out.trans (hb4.mono HB0.out.size)); have HX4 := Aside0.mk ((hb4.block _ (blk_lt HX0.out)).trans HX0.out); clear hb4)
      | ((with_reducible refine gate_dst (N := 18) rfl ?_); refine Kd.N_lit (Kd.slice 85 k85) (w0 := w) w.heap.size 74 ?hg (N' := 18) ?hd (xs := ([] : List (List S85))) (inner := []) (ok := fun k_ => w.heap.size ≤ k_) (okp := fun k_ => w.heap.size ≤ k_) ?hr ?hp (fun _ hk => hk) HB4.out.size HB4.out HB4.out.size (by simp) ?_; (case hd => rfl); (case hg => rfl); (case hr => first | (go_simp; done) | (go_simp; rfl)); (case hp => exact (Reps.none _ _)); intro v5 w5 hN5 hB5 hG5 _; have HN5 := Aside0.mk hN5; have HB5 := Aside0.mk hB5; have HX5 := Aside0.mk (blk_grown HX4.out hG5 (fun e_ => by cases e_)); clear hN5 hB5 hG5))
    (try simp only [Act.put, List.setIfInBounds_toArray, List.set_cons_zero, List.set_cons_succ])
    go_loopw [7, 8] (fun v i wr => ∃ j : Nat, i = .int .i64 (j : Int) ∧ j ≤ n ∧ Aside0 (Kd.N (Kd.slice 85 k85) 74 wr w.heap.size (fun k_ => w.heap.size ≤ k_) v (((l.take j).map g).filter fun y => decide (0 < y.length))) ∧ Aside0 (Below w.heap.size w wr) ∧ Aside0 (wr.heap[w.heap.size]? = some (.cells #[.int .u8 m.f0, .int .i64 m.f1, .string m.f2, .string m.f3, .string m.f4, .int .u64 m.f5] 69 (0, 0)))) (fun _ i _ => n - (intOf i).toNat)
    case atStart => exact ⟨0, rfl, Nat.zero_le _, HN5, HB5, HX5⟩
    case round =>
      clear HN5 HB5 HX5 HX4 HB4 HX0 HB0 HP
      obtain ⟨j, rfl, hj, HNv, HBv, HXv⟩ := hrel
      by_cases hlt : j < n
      · obtain ⟨ad, A2, c2, rfl, b2, l2, r2⟩ := at_L2 (Kd.V_reads' HV.out).2.2 (j : Int) (by omega) (by rw [HN.out]; omega)
        have hjl : j < l.length := by rw [HN.out]; exact hlt
        have hfil := catchmentref11_Apply.fil g j hjl
        have hmem : rd_L2 l (j : Int) ∈ l := by
          unfold rd_L2
          rw [Int.toNat_natCast, List.getD_eq_getElem?_getD, List.getElem?_eq_getElem hjl]
          exact List.getElem_mem hjl
        have h1 := HG.out _ hmem
        have hnl := catchmentref11_Apply.nlen (l := l) g j
        generalize rd_L2 l (j : Int) = y at *
        obtain ⟨x, hx⟩ : ∃ x, g y = x := ⟨_, rfl⟩
        rw [hx] at h1 hfil
        obtain ⟨acc, hacc⟩ : ∃ acc, ((l.take j).map g).filter (fun y => decide (0 < y.length)) = acc := ⟨_, rfl⟩
        rw [hacc] at HNv hfil hnl
        have HFIL := Aside0.mk hfil
        have H1 := Aside0.mk h1
        have HNL := Aside0.mk hnl
        have HY := Aside0.mk r2
        have HYC := Aside0.mk l2
        have HLT := Aside0.mk hlt
        have HK2 := Aside0.mk (World.block_lt_of_cell? w _ b2)
        have HB2 := Aside0.mk b2
        have f0 : wr.cell? (ad.add j) = some (.slice A2 y.length c2) := (HBv.out.cell HK2.out).trans HB2.out
        have d0wr : wr.cell? ⟨w.heap.size, 0, none⟩ = some (.int .u8 m.f0) := (blk_cell HXv.out 0).trans rfl
        have d1wr : wr.cell? ⟨w.heap.size, 1, none⟩ = some (.int .i64 m.f1) := (blk_cell HXv.out 1).trans rfl
        have d2wr : wr.cell? ⟨w.heap.size, 2, none⟩ = some (.string m.f2) := (blk_cell HXv.out 2).trans rfl
        have d3wr : wr.cell? ⟨w.heap.size, 3, none⟩ = some (.string m.f3) := (blk_cell HXv.out 3).trans rfl
        have d4wr : wr.cell? ⟨w.heap.size, 4, none⟩ = some (.string m.f4) := (blk_cell HXv.out 4).trans rfl
        have d5wr : wr.cell? ⟨w.heap.size, 5, none⟩ = some (.int .u64 m.f5) := (blk_cell HXv.out 5).trans rfl
        have HBd := Aside0.mk HBv.out.drew
        have HXd := Aside0.mk (z2_ HXv.out)
        have HQv := Aside0.mk (Below.refl wr.heap.size wr).drew
        clear hfil h1 hnl r2 l2 hlt b2 hmem hjl hx hacc
        have p1 : (j : Int) < (n : Int) := by have := HLT.out; omega
        have p2 : (0 : Int) ≤ (j : Int) := by omega
        go_wp2_with fail
        go_region_held3 (fun w' => w'.cell? ⟨w.heap.size, 0, none⟩ = some (.int .u8 m.f0) ∧ w'.cell? ⟨w.heap.size, 1, none⟩ = some (.int .i64 m.f1) ∧ w'.cell? ⟨w.heap.size, 2, none⟩ = some (.string m.f2) ∧ w'.cell? ⟨w.heap.size, 3, none⟩ = some (.string m.f3) ∧ w'.cell? ⟨w.heap.size, 4, none⟩ = some (.string m.f4) ∧ w'.cell? ⟨w.heap.size, 5, none⟩ = some (.int .u64 m.f5) ∧ w'.cell? (ad.add j) = some (.slice A2 y.length c2))
          ((first | go_keep | exact ⟨by assumption, by assumption, by assumption, by assumption, by assumption, by assumption, by assumption⟩))
          ((first
            | (go_at_call 69; refine (catchmentref11_one.calls k A2 c2 y m.f0 m.f1 m.f2 m.f3 m.f4 m.f5 x _ (Kd.C_below HY.out HBd.out) HYC.out H1.out).mono ?_; rintro e6 w6 ⟨v6, rfl, hR6, hB6⟩; obtain ⟨A6, c6, rfl⟩ := Kd.R_slice hR6; have hBK := HBd.out.trans (hB6.mono HBd.out.size); have hX6 := (hB6.block _ (blk_lt HXd.out)).trans HXd.out; have d0w6 : w6.cell? ⟨w.heap.size, 0, none⟩ = some (.int .u8 m.f0) := (blk_cell hX6 0).trans rfl; have d1w6 : w6.cell? ⟨w.heap.size, 1, none⟩ = some (.int .i64 m.f1) := (blk_cell hX6 1).trans rfl; have d2w6 : w6.cell? ⟨w.heap.size, 2, none⟩ = some (.string m.f2) := (blk_cell hX6 2).trans rfl; have d3w6 : w6.cell? ⟨w.heap.size, 3, none⟩ = some (.string m.f3) := (blk_cell hX6 3).trans rfl; have d4w6 : w6.cell? ⟨w.heap.size, 4, none⟩ = some (.string m.f4) := (blk_cell hX6 4).trans rfl; have d5w6 : w6.cell? ⟨w.heap.size, 5, none⟩ = some (.int .u64 m.f5) := (blk_cell hX6 5).trans rfl; have f6 : w6.cell? (ad.add j) = some (.slice A2 y.length c2) := (hBK.cell HK2.out).trans HB2.out; have hQ6 := HQv.out.trans (hB6.mono HQv.out.size))))
        have HBK := Aside0.mk hBK
        have HX6 := Aside0.mk hX6
        have HN6 := Aside0.mk (Kd.N_below HNv.out hQ6)
        have HR6 := Aside0.mk hR6
        clear hBK hX6 hB6 hQ6 hR6 f0 f6 d0wr d1wr d2wr d3wr d4wr d5wr d0w6 d1w6 d2w6 d3w6 d4w6 d5w6
        by_cases hz : 0 < x.length
        · have b6 : decide (0 < (x.length : Int)) = true := decide_eq_true (by omega)
          have b6n : decide (0 < x.length) = true := decide_eq_true hz
          have HZ := Aside0.mk hz
          clear hz
          go_wp2_with ((with_reducible refine gate_builtin (b := .append) (xs := #[.tmp 34, .tmp 36]) rfl ?_); at_builtin; refine Kd.N_append (Kd.slice 85 k85) (w0 := w) w.heap.size rfl (.tmp 34) (.tmp 36) 59 74 (.slice none 0 0) 24 rfl Try.underlying59 info74 rfl (by decide) (by omega) _ acc x [.slice A6 x.length c6] (fun k_ => w.heap.size ≤ k_) (fun k_ => wr.heap.size ≤ k_) rfl rfl ?hF ?hO (fun _ hk => Nat.le_trans HBK.out.size hk) HN6.out HBK.out HBK.out.size ?hL ?_; (case hF => exact Kd.FK_slice_mk (Kd.R_reads' HR6.out).2.1 (Kd.V_F (Kd.R_V (base' := 0) (Kd.R_mono (Kd.R_bound HR6.out) (fun k_ hk_ => hk_.2.1))))); (case hO => exact fun k_ hk_ => ⟨Nat.le_trans HBv.out.size hk_, fun e_ => absurd (Kd.N_lt HNv.out k_ e_.symm) (Nat.not_lt.2 hk_)⟩); (case hL => have h1_ := HNL.out; have h2_ := HLE.out; omega); intro v8 w8 hN8 hB8 hG8 _; have HN8 := Aside0.mk hN8; have HB8 := Aside0.mk hB8; have HX8 := Aside0.mk (blk_grown HX6.out hG8 (Kd.N_ne HN6.out HX6.out (by decide))); clear hN8 hB8 hG8)
          go_roundw
          case rel => exact ⟨j + 1, by go_num, (by have := HLT.out; omega), ⟨by rw [HFIL.out, if_pos HZ.out]; exact HN8.out⟩, HB8, HX8⟩
          case measure => simp [intOf]; have := HLT.out; omega
        · have b6 : decide (0 < (x.length : Int)) = false := decide_eq_false (by omega)
          have b6n : decide (0 < x.length) = false := decide_eq_false hz
          have HZ := Aside0.mk hz
          have hx0 : x.length = 0 := by omega
          clear hz
          go_wp2_with fail
          go_roundw
          case rel => exact ⟨j + 1, by go_num, (by have := HLT.out; omega), ⟨by rw [HFIL.out, if_neg HZ.out, List.append_nil]; exact HN6.out⟩, HBK, HX6⟩
          case measure => simp [intOf]; have := HLT.out; omega
      · obtain rfl : n = j := by omega
        go_wp2
        go_ret
        refine ⟨_, rfl, ?_, HBv.out⟩
        have := Kd.N_V (base' := 0) HNv.out
        rw [List.take_of_length_le (by rw [HN.out]; exact Nat.le_refl _), HRR.out] at this
        exact Kd.V_mono this (fun _ _ => trivial))
theorem catchmentref11_Apply.calls {w : World} {A : Option Addr} {c : Nat} {l r : List (List S85)} (hV : catchmentref11_both.VV w (.slice A l.length c) l) (m : S69) (most : Int) (hm2 : most ≤ 9223372036854775807) (k : Nat) (h : catchmentref11_Apply.Step k most m l r) :
    Calls Try.prog 33 #[.slice A l.length c, .agg #[.int .u8 m.f0, .int .i64 m.f1, .string m.f2, .string m.f3, .string m.f4, .int .u64 m.f5], .int .i64 most] w fun e' w' => ∃ v', e' = .returned v' ∧ catchmentref11_both.VV w' v' r ∧ Below w.heap.size w w' := by
  cases h with
  | nil x hp h1 => exact catchmentref11_Apply.pt hV m most hm2 hp (fun W hB => catchmentref11_point.nil m (max most 2) k x _ rfl h1)
  | point P e C x hp hlen hne hsz he hC hx h1 => exact catchmentref11_Apply.pt hV m most hm2 hp (fun W hB => catchmentref11_point.calls0 rfl (Kd.V_below hV hB) hlen hne hsz m he hC (max most 2) (by omega) (by omega) k x hx h1)
  | other _ g hp hl hg => exact catchmentref11_Apply.oth hV m most hm2 k g hp hl hg _ rfl

end Go.Proofs.Ytpfikmchimlneaa.M3
