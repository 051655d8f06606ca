-- written by a program of this session (wip/myprint.py), over the kit's printer and the session's own contracts
import Derived.Test.YtpfikmchimlneaaM3x0
import Derived.Test.YtpfikmchimlneaaM3P0
import Derived.Test.YtpfikmchimlneaaM3P1
namespace Go.Proofs.Ytpfikmchimlneaa.M3
open Go.RowKit Go.Proofs.YtpfikmchimlneaaW.PrintWords Go.Proofs.YtpfikmchimlneaaW.PrintLast Go.Proofs.YtpfikmchimlneaaW.PrintMore Go.Proofs.YtpfikmchimlneaaW.Mine
attribute [local go_sem] max2_int min2_int max_two min_two max_three min_three max_four min_four max2_str min2_str binOp_gtr_str binOp_leq_str binOp_geq_str   -- for this text's walks alone
set_option linter.unusedVariables false
set_option linter.unusedSimpArgs false

/-! ### block_Put: function 103 -/
open Go.Proofs.YtpfikmchimlneaaW.Sl
def block_Put.f (k : Nat) (l0 : List S85) (x0 x1 : ByteArray) : Option (List S85) := if l0.length < 999999 then (block_Place.f k l0 x0).bind fun t => (if t.2 = true then (if 0 ≤ t.1 ∧ t.1 < (l0.length : Int) then some (l0.set t.1.toNat ⟨x0, x1⟩) else none) else (if 0 ≤ t.1 ∧ t.1 ≤ (l0.length : Int) then some (l0.take t.1.toNat ++ [⟨x0, x1⟩] ++ l0.drop t.1.toNat) else none)) else none
theorem block_Put.mono : ∀ a0 a1 a2 k, LeO (block_Put.f k a0 a1 a2) (block_Put.f (k + 1) a0 a1 a2) := by
  intro a0 a1 a2 k
  unfold block_Put.f
  exact LeO.ite (LeO.bind (block_Place.mono _ _ _) (fun _ => LeO.refl _)) (LeO.none _)
theorem block_Put.one (w : World) (x0 x1 : ByteArray) : Kd.C k85 (w.alloc (.cells #[.string x0, .string x1] 85)) (some ⟨w.heap.size, 0, none⟩) 1 [⟨x0, x1⟩] :=
  ⟨rfl, by omega, fun _ => ⟨_, rfl, fun j p hj => by
    match j, hj with
    | 0, hj =>
      obtain rfl : (⟨x0, x1⟩ : S85) = p := by simpa using hj
      refine ⟨[.string x0, .string x1], rfl, k85_mk _ _, fun i u hi => ?_⟩
      have hh := heap_alloc_new w (.cells #[.string x0, .string x1] 85)
      match i, hi with
      | 0, hi =>
        obtain rfl : Value.string x0 = u := by simpa using hi
        rw [Addr.add_lit]
        simp only [World.cell?, hh]
        rfl
      | 1, hi =>
        obtain rfl : Value.string x1 = u := by simpa using hi
        rw [Addr.add_lit]
        simp only [World.cell?, hh]
        rfl⟩⟩
set_option maxHeartbeats 8000000 in
set_option maxRecDepth 100000 in
theorem block_Put.there (k : Nat) (A0 : Option Addr) (c0 : Nat) (l0 : List S85) (x0 x1 : ByteArray) (i : Nat) (w : World) (hr0 : Kd.C k85 w A0 l0.length l0) (hc0 : l0.length ≤ c0) (hl : l0.length < 999999) (hi : i < l0.length) (h : block_Place.f k l0 x0 = some ((i : Int), true)) :
    Calls Try.prog 103 #[.slice A0 l0.length c0, .agg #[.string x0, .string x1]] w fun e w' => ∃ v0_ : Value, e = .returned (v0_) ∧ Kd.R k85 85 w' w.heap.size (fun _ => True) v0_ (l0.set i ⟨x0, x1⟩) ∧ Below w.heap.size w w' := by
  have HB0 := Aside0.mk ((Below.refl w.heap.size w).alloc (Nat.le_refl _) (.cells #[.string x0, .string x1] 85))
  have hbox := heap_alloc_new w (.cells #[.string x0, .string x1] 85)
  have hcl : api_Entry_86.f l0 = some l0 := by unfold api_Entry_86.f; rw [if_pos (by omega)]
  have HCL := Aside0.mk hcl
  have HP := Aside0.mk h
  have HR0 := Aside0.mk hr0
  have HL := Aside0.mk hl
  have HI := Aside0.mk hi
  clear h hr0 hl hi hcl
  have HX := Aside0.mk hbox
  have b0 := (blk_cell hbox 0).trans rfl
  have b1 := (blk_cell hbox 1).trans rfl
  clear hbox
  go_enter Try.func103, Try.ntmps103
  go_wp2_with (first
    | (go_at_call 84; refine (block_Place.calls k A0 c0 l0 x0 (i : Int) true _ (Kd.C_below HR0.out HB0.out) hc0 HP.out).mono ?_; rintro e w1 ⟨rfl, hb1⟩; have HB1 := Aside0.mk (HB0.out.trans (hb1.mono HB0.out.size)); have HX1 := Aside0.mk ((hb1.block w.heap.size (by simp)).trans HX.out); clear hb1)
    | (fail))
  go_at_call 86
  refine (api_Entry_86.calls A0 c0 l0 l0 _ (Kd.C_below HR0.out HB1.out) hc0 HCL.out).mono ?_
  rintro e w2 ⟨v2, rfl, hR2, hB2⟩
  obtain ⟨g, c2, rfl, hg, hg2, cells2, hh2⟩ := Kd.R_form hR2 (by have := HI.out; omega)
  obtain ⟨ce, hcl, hM, hcc, hfr⟩ := Kd.R_elem hR2 z85 (i : Int) (by omega) (by have := HI.out; omega)
  obtain rfl := k85_openM hM
  have HS := Aside0.mk (Kd.R_seg hR2 (i : Int) (by omega) (by have := HI.out; omega) (seg := [.string x0, .string x1]) (j := 0) hcl hcc (show 2 ≤ 2 from by decide) (x' := (⟨x0, x1⟩ : S85)) (k85_mkM _ _ _ (⟨x0, x1⟩ : S85)) (fun _ hk => hk))
  have hx0 : w2.cell? ⟨g, i * 2, none⟩ = _ := hcc 0 _ rfl
  have hx1 : w2.cell? ⟨g, i * 2 + 1, none⟩ = _ := hcc 1 _ rfl
  have hf0 : w2.frozen? ⟨g, i * 2, none⟩ = false := hfr 0
  have hf1 : w2.frozen? ⟨g, i * 2 + 1, none⟩ = false := hfr 1
  have hX2 := (hB2.block w.heap.size (blk_lt HX1.out)).trans HX1.out
  have d0 : w2.cell? ⟨w.heap.size, 0, none⟩ = some (.string x0) := (blk_cell hX2 0).trans rfl
  have d1 : w2.cell? ⟨w.heap.size, 1, none⟩ = some (.string x1) := (blk_cell hX2 1).trans rfl
  have HB2 := Aside0.mk (HB1.out.trans (hB2.mono HB1.out.size))
  have hlt0 : (0 : Int) ≤ (i : Int) := by omega
  have hlt1 : (i : Int) < (l0.length : Int) := (by have := HI.out; omega)
  clear hM hcl hcc hfr hX2 hh2 hR2 hB2
  go_wp2
  go_ret
  have hS : Kd.R k85 85 ((w2.setCell ⟨g, i * 2, none⟩ (.string x0)).setCell ⟨g, i * 2 + 1, none⟩ (.string x1)) w1.heap.size (fun _ => True) (.slice (some ⟨g, 0, none⟩) l0.length c2) (l0.set i ⟨x0, x1⟩) := HS.out.1
  exact ⟨_, rfl, Kd.R_lower hS HB1.out.size, y4_ (y4_ HB2.out (Nat.le_trans HB1.out.size hg)) (Nat.le_trans HB1.out.size hg)⟩
set_option maxHeartbeats 8000000 in
set_option maxRecDepth 100000 in
theorem block_Put.absent (k : Nat) (A0 : Option Addr) (c0 : Nat) (l0 : List S85) (x0 x1 : ByteArray) (i : Nat) (w : World) (hr0 : Kd.C k85 w A0 l0.length l0) (hc0 : l0.length ≤ c0) (hl : l0.length < 999999) (hi : i ≤ l0.length) (h : block_Place.f k l0 x0 = some ((i : Int), false)) :
    Calls Try.prog 103 #[.slice A0 l0.length c0, .agg #[.string x0, .string x1]] w fun e w' => ∃ v0_ : Value, e = .returned (v0_) ∧ Kd.R k85 85 w' w.heap.size (fun _ => True) v0_ (l0.take i ++ [⟨x0, x1⟩] ++ l0.drop i) ∧ Below w.heap.size w w' := by
  have HB0 := Aside0.mk ((Below.refl w.heap.size w).alloc (Nat.le_refl _) (.cells #[.string x0, .string x1] 85))
  have hbox := heap_alloc_new w (.cells #[.string x0, .string x1] 85)
  have HP := Aside0.mk h
  have HR0 := Aside0.mk hr0
  have HL := Aside0.mk hl
  have HI := Aside0.mk hi
  have HC0 := Aside0.mk hc0
  clear h hr0 hl hi hc0
  have HX := Aside0.mk hbox
  have b0 : (w.alloc (.cells #[.string x0, .string x1] 85)).cell? ⟨w.heap.size, 0, none⟩ = some (.string x0) := (blk_cell hbox 0).trans rfl
  have b1 : (w.alloc (.cells #[.string x0, .string x1] 85)).cell? ⟨w.heap.size, 1, none⟩ = some (.string x1) := (blk_cell hbox 1).trans rfl
  clear hbox
  go_enter Try.func103, Try.ntmps103
  go_wp2_with (first
    | (go_at_call 84; refine (block_Place.calls k A0 c0 l0 x0 (i : Int) false _ (Kd.C_below HR0.out HB0.out) HC0.out HP.out).mono ?_; rintro e w1 ⟨rfl, hb1⟩; have HB1 := Aside0.mk (HB0.out.trans (hb1.mono HB0.out.size)); have HX1 := Aside0.mk ((hb1.block w.heap.size (by simp)).trans HX.out); clear hb1; have d0 : w1.cell? ⟨w.heap.size, 0, none⟩ = some (.string x0) := (blk_cell HX1.out 0).trans rfl; have d1 : w1.cell? ⟨w.heap.size, 1, none⟩ = some (.string x1) := (blk_cell HX1.out 1).trans rfl; have hcn : (l0.length : Int) ≤ (c0 : Int) := (by have := HC0.out; omega); have hcn0 : (0 : Int) ≤ (l0.length : Int) := (by omega))
    | (fail))
  go_region_with (refine (api_Entry_124.full A0 l0 [⟨x0, x1⟩] rfl ⟨w1.heap.size, 0, none⟩ i HI.out _ (Kd.C_drew (Kd.C_alloc (Kd.C_below HR0.out HB1.out) _)) (Kd.C_drew (block_Put.one w1 x0 x1)) (by have := HL.out; omega)).mono ?_; rintro e w2 ⟨v2, rfl, hR2, hB2⟩)
  have hw : w1.heap.size ≤ (w1.alloc (.cells #[.string x0, .string x1] 85)).drew.heap.size := by simp
  have HR2 := Aside0.mk (Kd.R_lower hR2 (Nat.le_trans HB1.out.size hw))
  have HB2 := Aside0.mk (((HB1.out.alloc HB1.out.size (.cells #[.string x0, .string x1] 85)).drew).trans (hB2.mono (Nat.le_trans HB1.out.size hw)))
  clear hR2 hB2 hw
  go_wp2
  go_ret
  exact ⟨_, rfl, HR2.out, HB2.out⟩
theorem block_Put.calls (k : Nat) (A0 : Option Addr) (c0 : Nat) (l0 : List S85) (x0 x1 : ByteArray) (r : List S85) (w : World) (hr0 : Kd.C k85 w A0 l0.length l0) (hc0 : l0.length ≤ c0) (h : block_Put.f k l0 x0 x1 = some r) :
    Calls Try.prog 103 #[.slice A0 l0.length c0, .agg #[.string x0, .string x1]] w fun e w' => ∃ v0_ : Value, e = .returned (v0_) ∧ Kd.R k85 85 w' w.heap.size (fun _ => True) v0_ r ∧ Below w.heap.size w w' := by
  unfold block_Put.f at h
  by_cases hl : l0.length < 999999
  · rw [if_pos hl] at h
    obtain ⟨⟨i, b⟩, ht, h⟩ := Option.bind_eq_some_iff.1 h
    cases b with
    | true =>
      rw [if_pos rfl] at h
      by_cases hi : 0 ≤ i ∧ i < (l0.length : Int)
      · rw [if_pos hi] at h
        obtain rfl := Option.some.inj h
        obtain ⟨j, rfl⟩ := Int.eq_ofNat_of_zero_le hi.1
        exact block_Put.there k A0 c0 l0 x0 x1 j w hr0 hc0 hl (by omega) ht
      · rw [if_neg hi] at h
        cases h
    | false =>
      rw [if_neg (by simp)] at h
      by_cases hi : 0 ≤ i ∧ i ≤ (l0.length : Int)
      · rw [if_pos hi] at h
        obtain rfl := Option.some.inj h
        obtain ⟨j, rfl⟩ := Int.eq_ofNat_of_zero_le hi.1
        exact block_Put.absent k A0 c0 l0 x0 x1 j w hr0 hc0 hl (by omega) ht
      · rw [if_neg hi] at h
        cases h
  · rw [if_neg hl] at h
    cases h

end Go.Proofs.Ytpfikmchimlneaa.M3
