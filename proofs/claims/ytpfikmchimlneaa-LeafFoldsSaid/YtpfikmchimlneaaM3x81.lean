-- written by a program of this session (wip/myprint.py), over the kit's printer and the session's own contracts
import Derived.Test.YtpfikmchimlneaaM3x0
import Derived.Test.YtpfikmchimlneaaM3x49
import Derived.Test.YtpfikmchimlneaaM3x80
namespace Go.Proofs.Ytpfikmchimlneaa.M3
open Go.RowKit Go.Proofs.YtpfikmchimlneaaW.PrintWords Go.Proofs.YtpfikmchimlneaaW.PrintLast Go.Proofs.YtpfikmchimlneaaW.PrintMore Go.Proofs.YtpfikmchimlneaaW.Mine
attribute [local go_sem] max2_int min2_int max_two min_two max_three min_three max_four min_four max2_str min2_str binOp_gtr_str binOp_leq_str binOp_geq_str   -- for this text's walks alone
set_option linter.unusedVariables false
set_option linter.unusedSimpArgs false

/-! ### catchmentref11_both: function 94 -/
-- over catchmentref11_change, leaf_weld
open Go.Proofs.YtpfikmchimlneaaW.Sl
theorem catchmentref11_both.kh : Kd.Heap k85 := Kd.heap_iso _ (Kd.heap_pair Kd.heap_string Kd.heap_string)
/-- a row of rows that is only read -/
abbrev catchmentref11_both.VV (W : World) (v : Value) (xs : List (List S85)) : Prop := Kd.V (Kd.slice 85 k85) 74 W 0 (fun _ => True) v xs
theorem catchmentref11_both.ofC {W : World} {A : Option Addr} {c : Nat} {l : List (List S85)} (h : Kd.C (Kd.slice 85 k85) W A l.length l) (hc : l.length ≤ c) : catchmentref11_both.VV W (.slice A l.length c) l := Kd.V_mk hc (Kd.F_mono (Kd.C_F (Kd.heap_slice 85 catchmentref11_both.kh) h) (fun _ _ => trivial))
theorem catchmentref11_both.one {W : World} {A : Option Addr} {c gx n : Nat} {y : List S85} (hn : n = y.length) (h : Kd.C k85 W A y.length y) (hc : y.length ≤ c) (hx : W.heap[gx]? = some (.cells #[.slice A n c] 74 (0, 0))) : catchmentref11_both.VV W (.slice (some ⟨gx, 0, none⟩) ([y] : List (List S85)).length 1) [y] := by
  subst hn
  refine catchmentref11_both.ofC ⟨rfl, by simp, fun _ => ⟨_, rfl, fun j p hj => ?_⟩⟩ (Nat.le_refl _)
  match j, hj with
  | 0, hj =>
    obtain rfl : y = p := by simpa using hj
    refine ⟨[.slice A y.length c], rfl, ⟨A, c, rfl, hc, h⟩, fun q u hu => ?_⟩
    rw [Nat.zero_mul, Nat.zero_add, Addr.add_lit, Nat.zero_add]
    simp only [World.cell?, hx]
    simpa using hu
set_option maxHeartbeats 4000000 in
set_option maxRecDepth 100000 in
theorem catchmentref11_both.low {w : World} {A : Option Addr} {c : Nat} (l : List (List S85)) (i most : Int) (hi : i < 0) :
    Calls Try.prog 94 #[.slice A l.length c, .int .i64 i, .int .i64 most] w fun e w' => e = .returned (.slice none 0 0) ∧ ∃ q, w' = w.drewN q := by
  have d1 : decide (i < 0) = true := decide_eq_true hi
  go_enter Try.func94, Try.ntmps94
  go_wp2_with fail
  go_quiet (fail)
  go_wp2_with fail
  go_ret
  exact ⟨rfl, _, rfl⟩
set_option maxHeartbeats 4000000 in
set_option maxRecDepth 100000 in
theorem catchmentref11_both.high {w : World} {A : Option Addr} {c : Nat} (l : List (List S85)) (i most : Int) (hi : 0 ≤ i) (hn : (l.length : Int) ≤ i + 1) (hb : i ≤ 1000000) :
    Calls Try.prog 94 #[.slice A l.length c, .int .i64 i, .int .i64 most] w fun e w' => e = .returned (.slice none 0 0) ∧ ∃ q, w' = w.drewN q := by
  obtain ⟨n, hn2⟩ : ∃ n, l.length = n := ⟨_, rfl⟩
  have d1 : decide (i < 0) = false := decide_eq_false (by omega)
  have w1 : IntKind.i64.wrap (i + 1) = i + 1 := by rw [IntKind.wrap_i64]; omega
  have d2 : decide ((n : Int) ≤ i + 1) = true := decide_eq_true (by omega)
  rw [hn2]
  clear hn2 hn
  go_enter Try.func94, Try.ntmps94
  go_wp2_with fail
  go_quiet (fail)
  go_wp2_with fail
  go_ret
  exact ⟨rfl, _, rfl⟩
set_option maxHeartbeats 8000000 in
set_option maxRecDepth 100000 in
theorem catchmentref11_both.much {w : World} {A : Option Addr} {c : Nat} {l : List (List S85)} (hV : Kd.C (Kd.slice 85 k85) w A l.length l) (i most : Int) (h0 : 0 ≤ i) (hn : i + 1 < (l.length : Int)) (hb : l.length ≤ 1000000) (hm : 0 ≤ most) (hm2 : most ≤ 9223372036854775807) (hs1 : (rd_L2 l i).length + (rd_L2 l (i + 1)).length ≤ 1000000) (hbig : most / 2 < (((rd_L2 l i).length + (rd_L2 l (i + 1)).length : Nat) : Int)) :
    Calls Try.prog 94 #[.slice A l.length c, .int .i64 i, .int .i64 most] w fun e w' => e = .returned (.slice none 0 0) ∧ ∃ q, w' = w.drewN q := by
  obtain ⟨ad, A1, c1, rfl, b1, _, _⟩ := at_L2 hV i h0 (by omega)
  obtain ⟨ad2, A2, c2, e2, b2, _, _⟩ := at_L2 hV (i + 1) (by omega) hn
  cases e2
  generalize (rd_L2 l i).length = n1 at *
  generalize (rd_L2 l (i + 1)).length = n2 at *
  obtain ⟨n, hn2⟩ : ∃ n, l.length = n := ⟨_, rfl⟩
  rw [hn2] at hn hb ⊢
  obtain ⟨q, hq⟩ : ∃ q, q = most / 2 := ⟨_, rfl⟩
  have hq0 : most.tdiv 2 = q := by rw [hq]; exact Int.tdiv_eq_ediv_of_nonneg (by omega)
  have w0 : IntKind.i64.wrap (most.tdiv 2) = q := by rw [hq0, IntKind.wrap_i64]; omega
  have d1 : decide (i < 0) = false := decide_eq_false (by omega)
  have w1 : IntKind.i64.wrap (i + 1) = i + 1 := by rw [IntKind.wrap_i64]; omega
  have d2 : decide ((n : Int) ≤ i + 1) = false := decide_eq_false (by omega)
  have w2 : IntKind.i64.wrap ((n1 : Int) + (n2 : Int)) = (n1 : Int) + (n2 : Int) := by rw [IntKind.wrap_i64]; omega
  have d3 : decide (q < (n1 : Int) + (n2 : Int)) = true := decide_eq_true (by omega)
  have p1 : i < (n : Int) := by omega
  have p2 : i + 1 < (n : Int) := by omega
  have p3 : (0 : Int) ≤ i + 1 := by omega
  clear hV hn2 hn hq hq0 hbig
  go_enter Try.func94, Try.ntmps94
  go_wp2_with fail
  go_quiet (fail)
  go_wp2_with fail
  go_ret
  exact ⟨rfl, _, rfl⟩
theorem catchmentref11_both.chg {l : List (List S85)} {y : List S85} (i : Int) (h0 : 0 ≤ i) (hn : i + 1 < (l.length : Int)) (hb : l.length < 1000000) : catchmentref11_change.f l i 2 [y] = some (l.take i.toNat ++ [y] ++ l.drop (i.toNat + 2)) := by
  have hw : wrap64 (i + 2) = i + 2 := by unfold wrap64; omega
  have ht : (i + 2).toNat = i.toNat + 2 := by omega
  unfold catchmentref11_change.f
  rw [hw, ht, Option.bind_some, if_pos h0, if_pos (by omega), Option.bind_some, if_pos (by simp; omega), Option.bind_some, if_pos (by simp; omega), Option.bind_some, if_pos (by omega), if_pos (by omega), Option.bind_some, if_pos (by simp; omega), List.nil_append]
set_option maxHeartbeats 8000000 in
set_option maxRecDepth 100000 in
theorem catchmentref11_both.yes {w : World} {A : Option Addr} {c : Nat} {l : List (List S85)} (hV : catchmentref11_both.VV w (.slice A l.length c) l) (i most : Int) (h0 : 0 ≤ i) (hn : i + 1 < (l.length : Int)) (hb : l.length < 1000000) (hm : 0 ≤ most) (hm2 : most ≤ 9223372036854775807) (hs1 : (rd_L2 l i).length + (rd_L2 l (i + 1)).length < 1000000) (hbig : (((rd_L2 l i).length + (rd_L2 l (i + 1)).length : Nat) : Int) ≤ most / 2) :
    Calls Try.prog 94 #[.slice A l.length c, .int .i64 i, .int .i64 most] w fun e w' => ∃ v', e = .returned v' ∧ catchmentref11_both.VV w' v' (l.take i.toNat ++ [rd_L2 l i ++ rd_L2 l (i + 1)] ++ l.drop (i.toNat + 2)) ∧ Below w.heap.size w w' := by
  obtain ⟨ad, A1, c1, rfl, b1, l1, r1⟩ := at_L2 (Kd.V_reads' hV).2.2 i h0 (by omega)
  obtain ⟨ad2, A2, c2, e2, b2, l2, r2⟩ := at_L2 (Kd.V_reads' hV).2.2 (i + 1) (by omega) hn
  cases e2
  generalize rd_L2 l i = y1 at *
  generalize rd_L2 l (i + 1) = y2 at *
  have HCH := Aside0.mk (catchmentref11_both.chg (y := y1 ++ y2) i h0 hn hb)
  have HV := Aside0.mk hV
  have HR1 := Aside0.mk r1
  have HR2 := Aside0.mk r2
  have HS := Aside0.mk hs1
  obtain ⟨q, hq⟩ : ∃ q, q = most / 2 := ⟨_, rfl⟩
  have hq0 : most.tdiv 2 = q := by rw [hq]; exact Int.tdiv_eq_ediv_of_nonneg (by omega)
  have w0 : IntKind.i64.wrap (most.tdiv 2) = q := by rw [hq0, IntKind.wrap_i64]; omega
  have d1 : decide (i < 0) = false := decide_eq_false (by omega)
  have w1 : IntKind.i64.wrap (i + 1) = i + 1 := by rw [IntKind.wrap_i64]; omega
  have d2 : decide ((l.length : Int) ≤ i + 1) = false := decide_eq_false (by omega)
  have w2 : IntKind.i64.wrap ((y1.length : Int) + (y2.length : Int)) = (y1.length : Int) + (y2.length : Int) := by rw [IntKind.wrap_i64]; omega
  have d3 : decide (q < (y1.length : Int) + (y2.length : Int)) = false := decide_eq_false (by omega)
  have p1 : i < (l.length : Int) := by omega
  have p3 : (0 : Int) ≤ i + 1 := by omega
  have HK1 := Aside0.mk (World.block_lt_of_cell? w _ b1)
  have HK2 := Aside0.mk (World.block_lt_of_cell? w _ b2)
  have HB1 := Aside0.mk b1
  have HB2 := Aside0.mk b2
  clear hV hq hq0 hbig r1 r2 hs1
  go_enter Try.func94, Try.ntmps94
  go_wp2_with fail
  go_quiet (fail)
  go_wp2_with fail
  have HD := Aside0.mk (show Below w.heap.size w (w.drewN nq) from pw_below_drewN (Below.refl _ _) nq)
  go_region_held3 (fun w' => w'.cell? (ad.add i.toNat) = some (.slice A1 y1.length c1) ∧ w'.cell? (ad.add (i + 1).toNat) = some (.slice A2 y2.length c2))
    ((first | go_keep | exact ⟨by assumption, by assumption⟩))
    ((first
      | (refine Kd.R_append_rows_step k85 (Rr := k85.K _) (w0 := w) w.heap.size rfl (.tmp 35) (.tmp 39) 74 85 (.agg #[.string ⟨#[]⟩, .string ⟨#[]⟩]) 32 rfl Try.underlying74 info85 rfl (by decide) (by omega) (.slice (some ⟨_, 0, none⟩) 0 0) [] y1 A1 y1.length c1 (fun _ => True) (fun _ => False) rfl rfl (Kd.R_lower (grown_nil k85 85 #[] 0 (by unfold maxLen; omega) (by simp)) (by simp)) (Kd.C_alloc (Kd.C_below HR1.out (HD.out.drew)) _) (fun _ _ h => h) (fun _ h => h.elim) (fun _ _ => trivial) ((HD.out.drew).alloc (by simp) _) (by simp) (by have := HS.out; simp; omega) ?_; intro v4 w4 hR4 hB4 _ _; obtain ⟨A4, c4, rfl⟩ := Kd.R_slice hR4; have k1w4 : w4.cell? (ad.add i.toNat) = some (.slice A1 y1.length c1) := (hB4.cell HK1.out).trans HB1.out; have k2w4 : w4.cell? (ad.add (i + 1).toNat) = some (.slice A2 y2.length c2) := (hB4.cell HK2.out).trans HB2.out)
      | (refine Kd.R_append_rows_step k85 (Rr := k85.K _) (w0 := w) w.heap.size rfl (.tmp 40) (.tmp 45) 74 85 (.agg #[.string ⟨#[]⟩, .string ⟨#[]⟩]) 32 rfl Try.underlying74 info85 rfl (by decide) (by omega) (.slice A4 ([] ++ y1).length c4) ([] ++ y1) y2 A2 y2.length c2 (fun _ => True) (fun _ => False) rfl rfl hR4 (Kd.C_below HR2.out hB4) (fun _ _ h => h) (fun _ h => h.elim) (fun _ _ => trivial) hB4 hB4.size (by have := HS.out; simp; omega) ?_; intro v5 w5 hR5 hB5 _ _; obtain ⟨A5, c5, rfl⟩ := Kd.R_slice hR5; have k1w5 : w5.cell? (ad.add i.toNat) = some (.slice A1 y1.length c1) := (hB5.cell HK1.out).trans HB1.out; have k2w5 : w5.cell? (ad.add (i + 1).toNat) = some (.slice A2 y2.length c2) := (hB5.cell HK2.out).trans HB2.out)
      | (go_at_call 93; refine (catchmentref11_change.calls (fun _ => True) _ c l i 2 (fun _ => True) _ 1 [y1 ++ y2] _ _ ?h1 ?h2 HCH.out).mono ?_; (case h1 => exact Kd.V_alloc (Kd.V_below HV.out hB5) _); (case h2 => exact catchmentref11_both.one (by simp) (Kd.C_alloc (Kd.R_reads' hR5).2.2 _) (Kd.R_reads' hR5).2.1 (heap_alloc_new _ _)); rintro e w6 ⟨v6, rfl, hN6, hB6⟩; have k1w6 : w6.cell? (ad.add i.toNat) = some (.slice A1 y1.length c1) := (hB6.cell (Nat.lt_of_lt_of_le HK1.out (by have := hB5.size; simp; omega))).trans ((World.cell?_alloc_lt _ _ _ (Nat.lt_of_lt_of_le HK1.out hB5.size)).trans k1w5); have k2w6 : w6.cell? (ad.add (i + 1).toNat) = some (.slice A2 y2.length c2) := (hB6.cell (Nat.lt_of_lt_of_le HK2.out (by have := hB5.size; simp; omega))).trans ((World.cell?_alloc_lt _ _ _ (Nat.lt_of_lt_of_le HK2.out hB5.size)).trans k2w5))))
  go_wp2
  go_ret
  exact ⟨_, rfl, Kd.V_mono (Kd.N_V hN6) (fun _ _ => trivial), (hB5.alloc hB5.size _).trans (hB6.mono (by have := hB5.size; simp; omega))⟩
def catchmentref11_both.f (l : List (List S85)) (i most : Int) : List (List S85) := if leaf_weld.can l i most = true then leaf_weld.w l i most else []
theorem catchmentref11_both.does {w : World} {A : Option Addr} {c : Nat} {l : List (List S85)} (hV : catchmentref11_both.VV w (.slice A l.length c) l) (i most : Int) (hb : l.length < 1000000) (hi : i ≤ 1000000) (hm : 0 ≤ most) (hm2 : most ≤ 9223372036854775807) (hs : ∀ x ∈ l, x.length < 400000) :
    Calls Try.prog 94 #[.slice A l.length c, .int .i64 i, .int .i64 most] w fun e w' => ∃ v', e = .returned v' ∧ catchmentref11_both.VV w' v' (catchmentref11_both.f l i most) ∧ Below w.heap.size w w' := by
  have hno : ∀ {e : Ending} {w' : World}, leaf_weld.can l i most = false → (e = .returned (.slice none 0 0) ∧ ∃ q, w' = w.drewN q) → ∃ v', e = .returned v' ∧ catchmentref11_both.VV w' v' (catchmentref11_both.f l i most) ∧ Below w.heap.size w w' := by
    rintro e w' hc ⟨rfl, q, rfl⟩
    refine ⟨_, rfl, ?_, pw_below_drewN (Below.refl _ _) q⟩
    unfold catchmentref11_both.f
    rw [hc, if_neg (by decide)]
    exact Kd.V_nil _ _ _ _ _
  have hat : ∀ j : Int, (rd_L2 l j).length < 400000 := fun j => by
    unfold rd_L2
    rcases Nat.lt_or_ge j.toNat l.length with hj | hj
    · rw [List.getD_eq_getElem?_getD, List.getElem?_eq_getElem hj]
      exact hs _ (List.getElem_mem hj)
    · rw [List.getD_eq_getElem?_getD, List.getElem?_eq_none hj]
      simp
  by_cases h1 : i < 0
  · exact (catchmentref11_both.low l i most h1).mono fun e w' he => hno (by unfold leaf_weld.can; rw [decide_eq_false (by omega)]; rfl) he
  · by_cases h2 : (l.length : Int) ≤ i + 1
    · exact (catchmentref11_both.high l i most (by omega) h2 hi).mono fun e w' he => hno (by unfold leaf_weld.can; rw [decide_eq_false (show ¬ (i + 1 < (l.length : Int)) by omega), Bool.and_false, Bool.false_and]) he
    · have a1 := hat i
      have a2 := hat (i + 1)
      have g1 : leaf_weld.at l i.toNat = rd_L2 l i := rfl
      have g2 : leaf_weld.at l (i + 1).toNat = rd_L2 l (i + 1) := rfl
      by_cases h3 : (((rd_L2 l i).length + (rd_L2 l (i + 1)).length : Nat) : Int) ≤ most / 2
      · have hc : leaf_weld.can l i most = true := by
          unfold leaf_weld.can
          rw [decide_eq_true (by omega), decide_eq_true (by omega), g1, g2, decide_eq_true (by omega)]
          rfl
        refine (catchmentref11_both.yes hV i most (by omega) (by omega) hb hm hm2 (by omega) h3).mono ?_
        rintro e w' ⟨v', rfl, hN, hB⟩
        refine ⟨v', rfl, ?_, hB⟩
        unfold catchmentref11_both.f leaf_weld.w
        rw [hc, if_pos rfl, if_pos rfl, g1, g2]
        exact hN
      · exact (catchmentref11_both.much (Kd.V_reads' hV).2.2 i most (by omega) (by omega) (by omega) hm hm2 (by omega) (by omega)).mono fun e w' he => hno (by unfold leaf_weld.can; rw [g1, g2, decide_eq_false (show ¬ (((rd_L2 l i).length : Int) + ((rd_L2 l (i + 1)).length : Int) ≤ most / 2) by omega), Bool.and_false]) he

end Go.Proofs.Ytpfikmchimlneaa.M3
