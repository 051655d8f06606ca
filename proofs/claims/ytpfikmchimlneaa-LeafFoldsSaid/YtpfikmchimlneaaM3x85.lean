-- written by a program of this session (wip/myprint.py), over the kit's printer and the session's own contracts
import Derived.Test.YtpfikmchimlneaaM3x0
import Derived.Test.YtpfikmchimlneaaM3x2
import Derived.Test.YtpfikmchimlneaaM3x6
import Derived.Test.YtpfikmchimlneaaM3x54
import Derived.Test.YtpfikmchimlneaaM3x55
import Derived.Test.YtpfikmchimlneaaM3x62
import Derived.Test.YtpfikmchimlneaaM3x64
import Derived.Test.YtpfikmchimlneaaM3x81
import Derived.Test.YtpfikmchimlneaaM3x83
import Derived.Test.YtpfikmchimlneaaM3P1
namespace Go.Proofs.Ytpfikmchimlneaa.M3
open Go.RowKit Go.Proofs.YtpfikmchimlneaaW.PrintWords Go.Proofs.YtpfikmchimlneaaW.PrintLast Go.Proofs.YtpfikmchimlneaaW.PrintMore Go.Proofs.YtpfikmchimlneaaW.Mine
attribute [local go_sem] max2_int min2_int max_two min_two max_three min_three max_four min_four max2_str min2_str binOp_gtr_str binOp_leq_str binOp_geq_str   -- for this text's walks alone
set_option linter.unusedVariables false
set_option linter.unusedSimpArgs false

/-! ### catchmentlaw11_LeafFolds: function 7 -/
-- over catchmentlaw11_few, catchmentref11_Row, catchmentlaw11_live, leaf_Apply, leaf_Fold, catchmentref11_Fold, catchmentref11_Apply, catchmentref11_Same
open Go.Proofs.YtpfikmchimlneaaW.Sl
def catchmentlaw11_LeafFolds.Ok (k : Nat) (l0 : List (List S85)) (l1 : List S69) (a2 : Int) : Prop := ∃ (y : List (List S85)) (b : Bool), catchmentlaw11_few.f k l0 = some y ∧ catchmentref11_Row.f k y = some b ∧ catchmentlaw11_live.f k = some true ∧ (b = true → a2 ≤ 9223372036854775807 ∧ (∀ m ∈ l1.take (mn (l1.length : Int) 30).toNat, ∃ r, leaf_Apply.f k y m.f0 m.f1 m.f2 m.f3 m.f4 m.f5 a2 = some r ∧ catchmentref11_Apply.Step k a2 m y r ∧ catchmentref11_Same.f k r r = some true) ∧ ∃ r, leaf_Fold.f k y (l1.take (mn (l1.length : Int) 30).toNat) a2 = some r ∧ catchmentref11_Fold.Chain k a2 (l1.take (mn (l1.length : Int) 30).toNat) y r ∧ catchmentref11_Same.f k r r = some true)
open Classical in
noncomputable def catchmentlaw11_LeafFolds.f (k : Nat) (l0 : List (List S85)) (l1 : List S69) (a2 : Int) : Option Bool := if catchmentlaw11_LeafFolds.Ok k l0 l1 a2 then some true else none
set_option maxRecDepth 100000 in
set_option maxHeartbeats 4000000 in
theorem catchmentlaw11_LeafFolds.some_read (A0 : Option Addr) (c0 : Nat) (l0 : List S69) (hl : l0.length ≤ c0) (w : World) : Calls Try.prog 28 #[.slice A0 l0.length c0] w fun e w' => e = .returned (.slice A0 (l0.take (mn (l0.length : Int) 30).toNat).length c0) ∧ w = w' := by
  obtain ⟨j, hj⟩ : ∃ j, mn (l0.length : Int) 30 = j := ⟨_, rfl⟩
  have h1 : 0 ≤ j := by rw [← hj]; unfold mn; split <;> omega
  have h2 : j ≤ (l0.length : Int) := by rw [← hj]; unfold mn; split <;> omega
  rw [hj]
  have hj_ : (if 30 < (l0.length : Int) then 30 else (l0.length : Int)) = j := hj
  have hjn : (if 30 < l0.length then (30 : Int) else (l0.length : Int)) = j := by rw [← hj]; unfold mn; (repeat' split) <;> omega
  obtain ⟨i06, hi06, _, hsz6, _⟩ := info_parts info69
  have hcut6 := cut_to (P := Try.prog) 60 69 .i64 Try.underlying60 hi06 A0 l0.length c0 j h1 h2 hl
  clear hi06 hsz6 hj
  have hl2 : (l0.take j.toNat).length = j.toNat := by rw [List.length_take]; omega
  go_enter Try.func28, Try.ntmps28
  go_wp2
  all_goals (go_ret; refine ⟨?_, rfl⟩; rw [hl2]; rfl)
set_option maxHeartbeats 16000000 in
set_option maxRecDepth 100000 in
theorem catchmentlaw11_LeafFolds.flat (k : Nat) (A0 : Option Addr) (c0 : Nat) (l0 : List (List S85)) (A1 : Option Addr) (c1 : Nat) (l1 : List S69) (a2 : Int) (w : World) (hr0 : Kd.C (Kd.slice 85 k85) w A0 l0.length l0) (hc0 : l0.length ≤ c0) (hc1 : l1.length ≤ c1) (y : List (List S85)) (h1 : catchmentlaw11_few.f k l0 = some y) (h2 : catchmentref11_Row.f k y = some false) (h3 : catchmentlaw11_live.f k = some true) :
    Calls Try.prog 7 #[.slice A0 l0.length c0, .slice A1 l1.length c1, .int .i64 a2] w fun e w' => e = .returned (.bool true) ∧ Below w.heap.size w w' := by
  have HV := Aside0.mk (show Kd.V (Kd.slice 85 k85) 74 w w.heap.size (fun _ => True) (.slice A0 l0.length c0) l0 from Kd.V_mk hc0 (Kd.F_mono (Kd.C_F (Kd.heap_slice 85 catchmentref11_both.kh) hr0) (fun _ _ => trivial)))
  have HSM := Aside0.mk (catchmentlaw11_LeafFolds.some_read A1 c1 l1 hc1)
  have H1 := Aside0.mk h1
  have H2 := Aside0.mk h2
  have H3 := Aside0.mk h3
  clear hr0 hc0 hc1 h1 h2 h3
  generalize (l1.take (mn (l1.length : Int) 30).toNat).length = mm at HSM
  go_enter Try.func7, Try.ntmps7
  go_wp2_with (first
    | (go_at_call 27; refine (catchmentlaw11_few.calls k (fun _ => True) A0 c0 l0 y _ HV.out H1.out).mono ?_; rintro e1 w1 ⟨v1, rfl, hN1, hB1⟩; obtain ⟨A2, c2, rfl⟩ := Kd.N_slice hN1; have HN1 := Aside0.mk hN1; have HB1 := Aside0.mk hB1; clear hN1 hB1)
    | (go_at_call 28; refine (HSM.out _).mono ?_; rintro e_ w_ ⟨rfl, rfl⟩)
    | (go_at_call 29; refine (catchmentref11_Row.calls k A2 c2 y false _ (Kd.N_reads' HN1.out).2.2 (Kd.N_reads' HN1.out).2.1 H2.out).mono ?_; rintro e2 w2 ⟨rfl, hB2⟩; have HB2 := Aside0.mk (HB1.out.trans (hB2.mono HB1.out.size)); clear hB2)
    | (go_at_call 30; refine (catchmentlaw11_live.calls k true _ H3.out).mono ?_; rintro e3 w3 ⟨rfl, hB3⟩; have HB3 := Aside0.mk (HB2.out.trans (hB3.mono HB2.out.size)); clear hB3))
  go_ret
  exact ⟨rfl, HB3.out⟩
set_option maxHeartbeats 16000000 in
set_option maxRecDepth 100000 in
theorem catchmentlaw11_LeafFolds.deep (k : Nat) (A0 : Option Addr) (c0 : Nat) (l0 : List (List S85)) (A1 : Option Addr) (c1 : Nat) (l1 : List S69) (a2 : Int) (w : World) (hr0 : Kd.C (Kd.slice 85 k85) w A0 l0.length l0) (hc0 : l0.length ≤ c0) (hr1 : Kd.C k69 w A1 l1.length l1) (hc1 : l1.length ≤ c1) (y : List (List S85)) (h1 : catchmentlaw11_few.f k l0 = some y) (h2 : catchmentref11_Row.f k y = some true) (h3 : catchmentlaw11_live.f k = some true) (ha : a2 ≤ 9223372036854775807)
    (h4 : ∀ m ∈ l1.take (mn (l1.length : Int) 30).toNat, ∃ r, leaf_Apply.f k y m.f0 m.f1 m.f2 m.f3 m.f4 m.f5 a2 = some r ∧ catchmentref11_Apply.Step k a2 m y r ∧ catchmentref11_Same.f k r r = some true) (rf : List (List S85)) (h5 : leaf_Fold.f k y (l1.take (mn (l1.length : Int) 30).toNat) a2 = some rf) (h6 : catchmentref11_Fold.Chain k a2 (l1.take (mn (l1.length : Int) 30).toNat) y rf) (h7 : catchmentref11_Same.f k rf rf = some true) :
    Calls Try.prog 7 #[.slice A0 l0.length c0, .slice A1 l1.length c1, .int .i64 a2] w fun e w' => e = .returned (.bool true) ∧ Below w.heap.size w w' := by
  have HV := Aside0.mk (show Kd.V (Kd.slice 85 k85) 74 w w.heap.size (fun _ => True) (.slice A0 l0.length c0) l0 from Kd.V_mk hc0 (Kd.F_mono (Kd.C_F (Kd.heap_slice 85 catchmentref11_both.kh) hr0) (fun _ _ => trivial)))
  have hsm := catchmentlaw11_LeafFolds.some_read A1 c1 l1 hc1
  have hcm : Kd.C k69 w A1 (l1.take (mn (l1.length : Int) 30).toNat).length (l1.take (mn (l1.length : Int) 30).toNat) := by
    have := C_take hr1 (mn (l1.length : Int) 30).toNat (by unfold mn; split <;> omega)
    rw [show (l1.take (mn (l1.length : Int) 30).toNat).length = (mn (l1.length : Int) 30).toNat from this.1]
    exact this
  have hcl : (l1.take (mn (l1.length : Int) 30).toNat).length ≤ c1 := by rw [List.length_take]; omega
  generalize l1.take (mn (l1.length : Int) 30).toNat = ms at *
  have HSM := Aside0.mk hsm
  have HCM := Aside0.mk hcm
  have HCL := Aside0.mk hcl
  have H1 := Aside0.mk h1
  have H2 := Aside0.mk h2
  have H3 := Aside0.mk h3
  have H4 := Aside0.mk h4
  have H5 := Aside0.mk h5
  have H6 := Aside0.mk h6
  have H7 := Aside0.mk h7
  have HA := Aside0.mk ha
  have hn9 : ms.length ≤ 9223372036854775807 := hcm.2.1
  clear hr0 hc0 hr1 hc1 h1 h2 h3 h4 h5 h6 h7 hsm hcm hcl ha
  obtain ⟨n, hn⟩ : ∃ n, ms.length = n := ⟨_, rfl⟩
  have HN := Aside0.mk hn
  rw [hn] at HSM hn9
  clear hn
  go_enter Try.func7, Try.ntmps7
  go_wp2_with (first
    | (go_at_call 27; refine (catchmentlaw11_few.calls k (fun _ => True) A0 c0 l0 y _ HV.out H1.out).mono ?_; rintro e1 w1 ⟨v1, rfl, hN1, hB1⟩; obtain ⟨A2, c2, rfl⟩ := Kd.N_slice hN1; have HV1 := Aside0.mk (Kd.V_mono (Kd.N_V (base' := 0) hN1) (ok' := fun _ => True) (fun _ _ => trivial)); have HB1 := Aside0.mk hB1; clear hN1 hB1)
    | (go_at_call 28; refine (HSM.out _).mono ?_; rintro e_ w_ ⟨rfl, rfl⟩)
    | (go_at_call 29; refine (catchmentref11_Row.calls k A2 c2 y true _ (Kd.V_reads' HV1.out).2.2 (Kd.V_reads' HV1.out).2.1 H2.out).mono ?_; rintro e2 w2 ⟨rfl, hB2⟩; have HQ2 := Aside0.mk hB2; clear hB2))
  (try simp only [Act.put, List.setIfInBounds_toArray, List.set_cons_zero, List.set_cons_succ])
  go_loopw [7] (fun i wr => ∃ j : Nat, i = .int .i64 (j : Int) ∧ j ≤ n ∧ Aside0 (Below w1.heap.size w1 wr)) (fun i _ => n - (intOf i).toNat)
  case atStart => exact ⟨0, rfl, Nat.zero_le _, HQ2⟩
  case round =>
    clear HQ2
    obtain ⟨j, rfl, hj, HBr⟩ := hrel
    have HBw := Aside0.mk (HB1.out.trans (HBr.out.mono HB1.out.size))
    by_cases hlt : j < n
    · obtain ⟨x, hx⟩ : ∃ x, ms.getD j z69 = x := ⟨_, rfl⟩
      have hj2 : j < ms.length := by rw [HN.out]; exact hlt
      have hmem : x ∈ ms := by
        rw [← hx, List.getD_eq_getElem?_getD, List.getElem?_eq_getElem hj2]
        exact List.getElem_mem hj2
      obtain ⟨r, hr1, hr2, hr3⟩ := H4.out x hmem
      have HRA := Aside0.mk hr1
      have HRS := Aside0.mk hr2
      have HRE := Aside0.mk hr3
      obtain ⟨ad, rfl, x0, x1, x2, x3, x4, x5⟩ := at_T69 HCM.out (j : Int) (by omega) (by rw [HN.out]; omega)
      have hrd : rd_T69 ms (j : Int) = x := by
        unfold rd_T69
        rw [Int.toNat_natCast]
        exact hx
      rw [hrd] at x0 x1 x2 x3 x4 x5
      simp only [Int.toNat_natCast] at x0 x1 x2 x3 x4 x5
      have HKB := Aside0.mk (World.block_lt_of_cell? w _ x0)
      have HX := Aside0.mk (show ∀ W : World, Below w.heap.size w W → W.cell? (ad.add (j * 6)) = some (.int .u8 x.f0) ∧ W.cell? ⟨(ad.add (j * 6)).block, (ad.add (j * 6)).off + 1, none⟩ = some (.int .i64 x.f1) ∧ W.cell? ⟨(ad.add (j * 6)).block, (ad.add (j * 6)).off + 2, none⟩ = some (.string x.f2) ∧ W.cell? ⟨(ad.add (j * 6)).block, (ad.add (j * 6)).off + 3, none⟩ = some (.string x.f3) ∧ W.cell? ⟨(ad.add (j * 6)).block, (ad.add (j * 6)).off + 4, none⟩ = some (.string x.f4) ∧ W.cell? ⟨(ad.add (j * 6)).block, (ad.add (j * 6)).off + 5, none⟩ = some (.int .u64 x.f5) from fun W h => ⟨(h.cell HKB.out).trans x0, (h.cell (p := ⟨_, _, none⟩) HKB.out).trans x1, (h.cell (p := ⟨_, _, none⟩) HKB.out).trans x2, (h.cell (p := ⟨_, _, none⟩) HKB.out).trans x3, (h.cell (p := ⟨_, _, none⟩) HKB.out).trans x4, (h.cell (p := ⟨_, _, none⟩) HKB.out).trans x5⟩)
      have HLT := Aside0.mk hlt
      clear hr1 hr2 hr3 hmem hj2 hrd hx x0 x1 x2 x3 x4 x5 hlt
      obtain ⟨z0, z1, z2, z3, z4, z5⟩ := HX.out wr HBw.out
      have p1 : (j : Int) < (n : Int) := by have := HLT.out; omega
      have p2 : (0 : Int) ≤ (j : Int) := by omega
      go_wp2_with fail
      go_region_held3 (fun w' => w'.cell? (ad.add (j * 6)) = some (.int .u8 x.f0) ∧ w'.cell? ⟨(ad.add (j * 6)).block, (ad.add (j * 6)).off + 1, none⟩ = some (.int .i64 x.f1) ∧ w'.cell? ⟨(ad.add (j * 6)).block, (ad.add (j * 6)).off + 2, none⟩ = some (.string x.f2) ∧ w'.cell? ⟨(ad.add (j * 6)).block, (ad.add (j * 6)).off + 3, none⟩ = some (.string x.f3) ∧ w'.cell? ⟨(ad.add (j * 6)).block, (ad.add (j * 6)).off + 4, none⟩ = some (.string x.f4) ∧ w'.cell? ⟨(ad.add (j * 6)).block, (ad.add (j * 6)).off + 5, none⟩ = some (.int .u64 x.f5))
        ((first | go_keep | assumption | exact ⟨by assumption, by assumption, by assumption, by assumption, by assumption, by assumption⟩))
        ((first
          | (go_at_call 32; refine (leaf_Apply.calls k A2 c2 y x.f0 x.f1 x.f2 x.f3 x.f4 x.f5 a2 r _ (Kd.C_below (Kd.V_reads' HV1.out).2.2 HBr.out.drew) (Kd.V_reads' HV1.out).2.1 HRA.out).mono ?_; rintro e4 w4 ⟨v4, rfl, hR4, hB4⟩; obtain ⟨A4, c4, rfl⟩ := Kd.R_slice hR4; have hC4 := HBr.out.drew.trans (hB4.mono HBr.out.drew.size); have hW4 := HB1.out.trans (hC4.mono HB1.out.size); have hS4 := HX.out w4 hW4)
          | (go_at_call 33; refine (catchmentref11_Apply.calls (Kd.V_below HV1.out hC4) x a2 HA.out k HRS.out).mono ?_; rintro e5 w5 ⟨v5, rfl, hV5, hB5⟩; obtain ⟨A5, c5, rfl⟩ := Kd.V_slice hV5; have hC5 := hC4.trans (hB5.mono hC4.size); have hS5 := HX.out w5 (HB1.out.trans (hC5.mono HB1.out.size)))
          | (go_at_call 31; refine (catchmentref11_Same.calls k A4 c4 r A5 c5 r true _ (Kd.C_below (Kd.R_reads' hR4).2.2 hB5) (Kd.R_reads' hR4).2.1 (Kd.V_reads' hV5).2.2 (Kd.V_reads' hV5).2.1 HRE.out).mono ?_; rintro e6 w6 ⟨rfl, hD6⟩; have hC6 := hC5.trans (hD6.below.mono hC5.size); have hS6 := HX.out w6 (HB1.out.trans (hC6.mono HB1.out.size)))))
      have HC6 := Aside0.mk hC6
      clear hC4 hC5 hC6 hB4 hB5 hD6 hR4 hV5 hS4 hS5 hS6 z0 z1 z2 z3 z4 z5 hW4
      go_wp2_with fail
      go_roundw
      case rel => exact ⟨j + 1, by go_num, (by have := HLT.out; omega), HC6⟩
      case measure => simp [intOf]; have := HLT.out; omega
    · obtain rfl : n = j := by omega
      go_wp2_with (first
        | (go_at_call 31; refine (catchmentref11_Same.calls k A4 c4 rf A5 c5 rf true _ (Kd.C_below (Kd.R_reads' HR4.out).2.2 HQ5.out) (Kd.R_reads' HR4.out).2.1 (Kd.V_reads' HV5.out).2.2 (Kd.V_reads' HV5.out).2.1 H7.out).mono ?_; rintro e6 w6 ⟨rfl, hD6⟩; have HB6 := Aside0.mk (HB5.out.trans (hD6.below.mono HB5.out.size)); clear hD6)
        | (go_at_call 35; refine (show Calls _ _ #[_, .slice _ n _, _] _ _ from HN.out ▸ catchmentref11_Fold.calls (Kd.V_below HV1.out HC4.out) A1 c1 ms (Kd.C_below HCM.out HB4.out) HCL.out a2 HA.out k H6.out).mono ?_; rintro e5 w5 ⟨v5, rfl, hV5, hB5⟩; obtain ⟨A5, c5, rfl⟩ := Kd.V_slice hV5; have HV5 := Aside0.mk hV5; have HQ5 := Aside0.mk hB5; have HB5 := Aside0.mk (HB4.out.trans (hB5.mono HB4.out.size)); clear hV5 hB5)
        | (go_at_call 34; refine (show Calls _ _ #[_, .slice _ n _, _] _ _ from HN.out ▸ leaf_Fold.calls k A2 c2 y A1 c1 ms a2 rf _ (Kd.C_below (Kd.V_reads' HV1.out).2.2 HC3.out) (Kd.V_reads' HV1.out).2.1 (Kd.C_below HCM.out HB3.out) HCL.out H5.out).mono ?_; rintro e4 w4 ⟨v4, rfl, hR4, hB4⟩; obtain ⟨A4, c4, rfl⟩ := Kd.R_slice hR4; have HR4 := Aside0.mk hR4; have HC4 := Aside0.mk (HC3.out.trans (hB4.mono HC3.out.size)); have HB4 := Aside0.mk (HB3.out.trans (hB4.mono HB3.out.size)); clear hR4 hB4)
        | (go_at_call 30; refine (catchmentlaw11_live.calls k true _ H3.out).mono ?_; rintro e3 w3 ⟨rfl, hB3⟩; have HC3 := Aside0.mk (HBr.out.trans (hB3.mono HBr.out.size)); have HB3 := Aside0.mk (HBw.out.trans (hB3.mono HBw.out.size)); clear hB3))
      go_ret
      exact ⟨rfl, HB6.out⟩
theorem catchmentlaw11_LeafFolds.calls (k : Nat) (A0 : Option Addr) (c0 : Nat) (l0 : List (List S85)) (A1 : Option Addr) (c1 : Nat) (l1 : List S69) (a2 : Int) (r : Bool) (w : World) (hr0 : Kd.C (Kd.slice 85 k85) w A0 l0.length l0) (hc0 : l0.length ≤ c0) (hr1 : Kd.C k69 w A1 l1.length l1) (hc1 : l1.length ≤ c1) (h : catchmentlaw11_LeafFolds.f k l0 l1 a2 = some r) :
    Calls Try.prog 7 #[.slice A0 l0.length c0, .slice A1 l1.length c1, .int .i64 a2] w fun e w' => e = .returned (.bool r) ∧ Below w.heap.size w w' := by
  unfold catchmentlaw11_LeafFolds.f at h
  by_cases hok : catchmentlaw11_LeafFolds.Ok k l0 l1 a2
  · rw [if_pos hok] at h
    obtain rfl := Option.some.inj h
    obtain ⟨y, b, h1, h2, h3, h4⟩ := hok
    cases b with
    | false => exact catchmentlaw11_LeafFolds.flat k A0 c0 l0 A1 c1 l1 a2 w hr0 hc0 hc1 y h1 h2 h3
    | true =>
      obtain ⟨ha, h5, rf, h6, h7, h8⟩ := h4 rfl
      exact catchmentlaw11_LeafFolds.deep k A0 c0 l0 A1 c1 l1 a2 w hr0 hc0 hr1 hc1 y h1 h2 h3 ha h5 rf h6 h7 h8
  · rw [if_neg hok] at h
    cases h
def ok85 (y : S85) : Prop := (fun s : ByteArray => s.size ≤ 140737488351232) y.f0 ∧ (fun s : ByteArray => s.size ≤ 140737488351232) y.f1
def ok69 (y : S69) : Prop := (fun x : Int => (Lit.int .u8 x).wf = true) y.f0 ∧ (fun x : Int => (Lit.int .i64 x).wf = true) y.f1 ∧ (fun s : ByteArray => s.size ≤ 140737488351232) y.f2 ∧ (fun s : ByteArray => s.size ≤ 140737488351232) y.f3 ∧ (fun s : ByteArray => s.size ≤ 140737488351232) y.f4 ∧ (fun x : Int => (Lit.int .u64 x).wf = true) y.f5
/-- THE ONE PURE STATEMENT of catchmentlaw11_LeafFolds. -/
def catchmentlaw11_LeafFolds.Pure : Prop := ∀ (l0 : List (List (S85))) (l1 : List (S69)) (a2 : Int), (fun xs : List (List (S85)) => xs.length ≤ maxLen ∧ xs.length * 24 ≤ 140737488351232 ∧ ∀ x ∈ xs, (fun xs : List (S85) => xs.length ≤ maxLen ∧ xs.length * 32 ≤ 140737488351232 ∧ ∀ x ∈ xs, ok85 x) x) l0 → (fun xs : List (S69) => xs.length ≤ maxLen ∧ xs.length * 72 ≤ 140737488351232 ∧ ∀ x ∈ xs, ok69 x) l1 → (fun x : Int => (Lit.int .i64 x).wf = true) a2 → ∃ k, catchmentlaw11_LeafFolds.f k l0 l1 a2 = some true
theorem catchmentlaw11_LeafFolds.walk (P : catchmentlaw11_LeafFolds.Pure) (A0 : Option Addr) (c0 : Nat) (l0 : List (List (S85))) (A1 : Option Addr) (c1 : Nat) (l1 : List (S69)) (a2 : Int) (w : World) (hr0 : Kd.C (Kd.slice 85 k85) w A0 l0.length l0) (hc0 : l0.length ≤ c0) (hr1 : Kd.C k69 w A1 l1.length l1) (hc1 : l1.length ≤ c1) (ok_0 : (fun xs : List (List (S85)) => xs.length ≤ maxLen ∧ xs.length * 24 ≤ 140737488351232 ∧ ∀ x ∈ xs, (fun xs : List (S85) => xs.length ≤ maxLen ∧ xs.length * 32 ≤ 140737488351232 ∧ ∀ x ∈ xs, ok85 x) x) l0) (ok_1 : (fun xs : List (S69) => xs.length ≤ maxLen ∧ xs.length * 72 ≤ 140737488351232 ∧ ∀ x ∈ xs, ok69 x) l1) (ok_2 : (fun x : Int => (Lit.int .i64 x).wf = true) a2) :
    Calls Try.prog 7 #[.slice A0 l0.length c0, .slice A1 l1.length c1, .int .i64 a2] w fun e w' => e = .returned (.bool true) ∧ Below w.heap.size w w' := by
  obtain ⟨k, h⟩ := P l0 l1 a2 ok_0 ok_1 ok_2
  refine (catchmentlaw11_LeafFolds.calls k A0 c0 l0 A1 c1 l1 a2 true w hr0 hc0 hr1 hc1 h).mono ?_
  rintro e w' ⟨rfl, hd⟩
  exact ⟨rfl, hd⟩

end Go.Proofs.Ytpfikmchimlneaa.M3
