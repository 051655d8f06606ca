-- written by a program of this session (wip/myprint.py), over the kit's printer and the session's own contracts
import Derived.Test.YtnklnjghecmihaaH5x0
import Derived.Test.YtnklnjghecmihaaH5x21
import Derived.Test.YtnklnjghecmihaaH5x29
import Derived.Test.YtnklnjghecmihaaH5P0
import Derived.Test.YtnklnjghecmihaaH5x32
import Derived.Test.YtnklnjghecmihaaH5x38
import Derived.Test.YtnklnjghecmihaaH5P1
import Derived.Test.YtnklnjghecmihaaH5x43
import Derived.Test.YtnklnjghecmihaaH5x52
namespace Go.Proofs.Ytnklnjghecmihaa.H5
open Go.RowKit Go.Proofs.YtnklnjghecmihaaW.PrintWords Go.Proofs.YtnklnjghecmihaaW.PrintLast Go.Proofs.YtnklnjghecmihaaW.PrintMore Go.Proofs.YtnklnjghecmihaaW.Mine
attribute [local go_sem] max2_int min2_int max_two min_two max_three min_three max_four min_four max2_str min2_str binOp_gtr_str binOp_leq_str binOp_geq_str   -- for this text's walks alone
set_option linter.unusedVariables false
set_option linter.unusedSimpArgs false

/-! ### catchmentlaw10_BlockOwn: function 14 -/
open Go.Proofs.YtnklnjghecmihaaW.Sl Go.Proofs.YtnklnjghecmihaaW.Own
set_option maxRecDepth 100000 in
set_option maxHeartbeats 4000000 in
theorem catchmentlaw10_BlockOwn.few_read (A0 : Option Addr) (c0 : Nat) (l0 : List S25) (hl : l0.length ≤ c0) (w : World) : Calls Try.prog 15 #[.slice A0 l0.length c0] w fun e w' => e = .returned (.slice A0 (l0.take (mn (l0.length : Int) 40).toNat).length c0) ∧ w = w' := by
  obtain ⟨j, hj⟩ : ∃ j, mn (l0.length : Int) 40 = j := ⟨_, rfl⟩
  have h1 : 0 ≤ j := by rw [← hj]; unfold mn; split <;> omega
  have h2 : j ≤ (l0.length : Int) := by rw [← hj]; unfold mn; split <;> omega
  rw [hj]
  have hj_ : (if 40 < (l0.length : Int) then 40 else (l0.length : Int)) = j := hj
  have hjn : (if 40 < l0.length then (40 : Int) else (l0.length : Int)) = j := by rw [← hj]; unfold mn; (repeat' split) <;> omega
  obtain ⟨i06, hi06, _, hsz6, _⟩ := info_parts info25
  have hcut6 := cut_to (P := Try.prog) 22 25 .i64 Try.underlying22 hi06 A0 l0.length c0 j h1 h2 hl
  clear hi06 hsz6 hj
  have hl2 : (l0.take j.toNat).length = j.toNat := by rw [List.length_take]; omega
  go_enter Try.func15, Try.ntmps15
  go_wp2
  all_goals (go_ret; refine ⟨?_, rfl⟩; rw [hl2]; rfl)
def catchmentlaw10_BlockOwn.f (k : Nat) (l0 : List S25) (x0 x1 r0 r1 : ByteArray) : Option Bool :=
  (catchmentref05_Rises.f k (l0.take (mn (l0.length : Int) 40).toNat)).bind fun t => if t = true then
    (block_Halves.f (l0.take (mn (l0.length : Int) 40).toNat)).bind fun h => (block_Put.f k (l0.take (mn (l0.length : Int) 40).toNat) x0 x1).bind fun p => (block_Drop.f k (l0.take (mn (l0.length : Int) 40).toNat) x0).bind fun d => (block_Cut.f k (l0.take (mn (l0.length : Int) 40).toNat) r0 r1).bind fun c => (block_Apply.f k (l0.take (mn (l0.length : Int) 40).toNat) 0 0 ⟨#[]⟩ ⟨#[]⟩ ⟨#[]⟩ 0).bind fun ap => (catchmentlaw10_live.f k).bind fun lv => if lv = true then catchmentref05_Same.f k (l0.take (mn (l0.length : Int) 40).toNat) (l0.take (mn (l0.length : Int) 40).toNat) else none
  else catchmentlaw10_live.f k
set_option maxHeartbeats 8000000 in
set_option maxRecDepth 100000 in
theorem catchmentlaw10_BlockOwn.flat (k : Nat) (A0 : Option Addr) (c0 : Nat) (l0 : List S25) (x0 x1 r0 r1 : ByteArray) (r : Bool) (w : World) (hr0 : Kd.C k25 w A0 l0.length l0) (hc0 : l0.length ≤ c0) (ht : catchmentref05_Rises.f k (l0.take (mn (l0.length : Int) 40).toNat) = some false) (h : catchmentlaw10_live.f k = some r) :
    Calls Try.prog 14 #[.slice A0 l0.length c0, .agg #[.string x0, .string x1], .agg #[.string r0, .string r1]] w fun e w' => e = .returned (.bool r) ∧ Below w.heap.size w w' := by
  obtain ⟨y, hy⟩ : ∃ y, l0.take (mn (l0.length : Int) 40).toNat = y := ⟨_, rfl⟩
  have hC : Kd.C k25 w A0 y.length y := by
    have := C_take hr0 (mn (l0.length : Int) 40).toNat (by unfold mn; split <;> omega)
    rw [hy] at this
    rw [show y.length = (mn (l0.length : Int) 40).toNat from this.1]
    exact this
  have hyc : y.length ≤ c0 := by rw [← hy, List.length_take]; omega
  have hfew : ∀ W, Calls Try.prog 15 #[.slice A0 l0.length c0] W fun e w' => e = .returned (.slice A0 y.length c0) ∧ W = w' := fun W => by
    have := catchmentlaw10_BlockOwn.few_read A0 c0 l0 hc0 W
    rw [hy] at this
    exact this
  rw [hy] at ht
  have HC := Aside0.mk hC
  have HYC := Aside0.mk hyc
  have HFEW := Aside0.mk hfew
  have HT := Aside0.mk ht
  have HL := Aside0.mk h
  have HB0 := Aside0.mk (((Below.refl w.heap.size w).alloc (Nat.le_refl _) (.cells #[.string x0, .string x1] 25)).alloc (by simp) (.cells #[.string r0, .string r1] 48))
  clear hr0 hC hyc hfew ht h hy
  go_enter Try.func14, Try.ntmps14
  go_wp2_with (first
    | (go_at_call 15; refine (HFEW.out _).mono ?_; rintro e w_ ⟨rfl, rfl⟩)
    | (go_at_call 22; refine (catchmentref05_Rises.calls k A0 c0 y false _ (Kd.C_below HC.out HB0.out) HYC.out HT.out).mono ?_; rintro e w1 ⟨rfl, hd1⟩; have HD1 := Aside0.mk hd1; clear hd1)
    | (go_at_call 16; refine (catchmentlaw10_live.calls k r _ HL.out).mono ?_; rintro e w2 ⟨rfl, hb2⟩; have HB2 := Aside0.mk hb2; clear hb2))
  go_ret
  exact ⟨rfl, (HB0.out.trans (HD1.out.below.mono HB0.out.size)).trans (HB2.out.mono (Nat.le_trans HB0.out.size HD1.out.below.size))⟩
theorem catchmentlaw10_BlockOwn.held {W W' : World} (hb : Below W.heap.size W W') (b o : Nat) (h : b < W.heap.size) : W'.cell? ⟨b, o, none⟩ = W.cell? ⟨b, o, none⟩ := hb.cell (p := ⟨b, o, none⟩) h
set_option maxHeartbeats 16000000 in
set_option maxRecDepth 100000 in
theorem catchmentlaw10_BlockOwn.deep (k : Nat) (A0 : Option Addr) (c0 : Nat) (l0 : List S25) (x0 x1 r0 r1 : ByteArray) (h1 h2 p d c ap : List S25) (r : Bool) (w : World) (hr0 : Kd.C k25 w A0 l0.length l0) (hc0 : l0.length ≤ c0) (ht : catchmentref05_Rises.f k (l0.take (mn (l0.length : Int) 40).toNat) = some true)
    (hh : block_Halves.f (l0.take (mn (l0.length : Int) 40).toNat) = some (h1, h2)) (hp : block_Put.f k (l0.take (mn (l0.length : Int) 40).toNat) x0 x1 = some p) (hd : block_Drop.f k (l0.take (mn (l0.length : Int) 40).toNat) x0 = some d) (hc : block_Cut.f k (l0.take (mn (l0.length : Int) 40).toNat) r0 r1 = some c) (ha : block_Apply.f k (l0.take (mn (l0.length : Int) 40).toNat) 0 0 ⟨#[]⟩ ⟨#[]⟩ ⟨#[]⟩ 0 = some ap) (hv : catchmentlaw10_live.f k = some true) (hs : catchmentref05_Same.f k (l0.take (mn (l0.length : Int) 40).toNat) (l0.take (mn (l0.length : Int) 40).toNat) = some r) :
    Calls Try.prog 14 #[.slice A0 l0.length c0, .agg #[.string x0, .string x1], .agg #[.string r0, .string r1]] w fun e w' => e = .returned (.bool r) ∧ Below w.heap.size w w' := by
  have hy40 : (l0.take (mn (l0.length : Int) 40).toNat).length ≤ 40 := by
    rw [List.length_take]
    unfold mn
    split <;> omega
  obtain ⟨y, hy⟩ : ∃ y, l0.take (mn (l0.length : Int) 40).toNat = y := ⟨_, rfl⟩
  have hC : Kd.C k25 w A0 y.length y := by
    have := C_take hr0 (mn (l0.length : Int) 40).toNat (by unfold mn; split <;> omega)
    rw [hy] at this
    rw [show y.length = (mn (l0.length : Int) 40).toNat from this.1]
    exact this
  have hyc : y.length ≤ c0 := by rw [← hy, List.length_take]; omega
  have hfew : ∀ W, Calls Try.prog 15 #[.slice A0 l0.length c0] W fun e w' => e = .returned (.slice A0 y.length c0) ∧ W = w' := fun W => by
    have := catchmentlaw10_BlockOwn.few_read A0 c0 l0 hc0 W
    rw [hy] at this
    exact this
  rw [hy] at ht hh hp hd hc ha hs hy40
  have HC := Aside0.mk hC
  have HYC := Aside0.mk hyc
  have HFEW := Aside0.mk hfew
  have HT := Aside0.mk ht
  have HH := Aside0.mk hh
  have HP := Aside0.mk hp
  have HD := Aside0.mk hd
  have HCU := Aside0.mk hc
  have HAP := Aside0.mk ha
  have HL := Aside0.mk hv
  have HSM := Aside0.mk hs
  have HY := Aside0.mk hy40
  have HB0 := Aside0.mk (((Below.refl w.heap.size w).alloc (Nat.le_refl _) (.cells #[.string x0, .string x1] 25)).alloc (by simp) (.cells #[.string r0, .string r1] 48))
  have hg1 := heap_alloc_new w (.cells #[.string x0, .string x1] 25)
  have hg2 := heap_alloc_new (w.alloc (.cells #[.string x0, .string x1] 25)) (.cells #[.string r0, .string r1] 48)
  have e1 : (w.alloc (.cells #[.string x0, .string x1] 25)).heap.size = w.heap.size + 1 := by simp
  rw [e1] at hg2
  have HG1 := Aside0.mk (z3_ hg1 (.cells #[.string r0, .string r1] 48))
  have HG2 := Aside0.mk hg2
  clear hr0 hC hyc hfew ht hh hp hd hc ha hv hs hy hy40 hg1 hg2 e1
  go_enter Try.func14, Try.ntmps14
  go_wp2_with (first
    | (go_at_call 15; refine (HFEW.out _).mono ?_; rintro e w_ ⟨rfl, rfl⟩)
    | (go_at_call 22; refine (catchmentref05_Rises.calls k A0 c0 y true _ (Kd.C_below HC.out HB0.out) HYC.out HT.out).mono ?_; rintro e w1 ⟨rfl, hd1⟩; have HB1 := Aside0.mk (HB0.out.trans (hd1.below.mono HB0.out.size)); have HX1 := Aside0.mk ((hd1.below.block _ (blk_lt HG1.out)).trans HG1.out); have HZ1 := Aside0.mk ((hd1.below.block _ (blk_lt HG2.out)).trans HG2.out); clear hd1)
    | ((with_reducible refine gate_builtin (b := .append) (xs := #[.tmp 19, .tmp 20]) rfl ?_); at_builtin; refine Kd.R_append_rows k25 (Rr := k25.K _) (w0 := w) w.heap.size rfl (.tmp 19) (.tmp 20) 22 25 (.agg #[.string ⟨#[]⟩, .string ⟨#[]⟩]) 32 rfl Try.underlying22 info25 rfl (by decide) (by omega) (.slice (some ⟨w1.heap.size, 0, none⟩) 0 0) [] y A0 y.length c0 (fun _ => True) (fun _ => False) rfl rfl (Kd.R_lower (grown_nil k25 (W := w1) 25 #[] 0 (by unfold maxLen; omega) (by simp)) HB1.out.size) (Kd.C_alloc (Kd.C_below HC.out HB1.out) _) (fun _ _ h => h) (fun _ h => h.elim) (fun _ _ => trivial) (HB1.out.alloc HB1.out.size _) (Nat.le_trans HB1.out.size (by simp)) (by have := HY.out; simp; omega) ?_; intro v2 w2 hR2 hB2 hgr2 _; have HR2 := Aside0.mk hR2; have HB2 := Aside0.mk hB2; have HX2 := Aside0.mk (blk_grown (z3_ HX1.out _) hgr2 (fun e => by have := blk_lt HX1.out; simp [Value.ownBlock] at e; omega)); have HZ2 := Aside0.mk (blk_grown (z3_ HZ1.out _) hgr2 (fun e => by have := blk_lt HZ1.out; simp [Value.ownBlock] at e; omega)); clear hR2 hB2 hgr2)
    | (go_at_call 23; refine (block_Halves.calls A0 c0 y h1 h2 _ (Kd.C_below HC.out HB2.out) HYC.out HH.out).mono ?_; rintro e w3 ⟨va, vb, rfl, hRa, hRb, hB3⟩; obtain ⟨Ba, da, rfl⟩ := Kd.R_slice hRa; obtain ⟨Bb, db, rfl⟩ := Kd.R_slice hRb; have HQ3 := Aside0.mk hB3; have HB3 := Aside0.mk (HB2.out.trans (hB3.mono HB2.out.size)); have HRa := Aside0.mk (Wr.of_R hRa); have HRb := Aside0.mk (Wr.of_R hRb); have hX3 := (hB3.block _ (blk_lt HX2.out)).trans HX2.out; have hZ3 := (hB3.block _ (blk_lt HZ2.out)).trans HZ2.out; have k0 : w3.cell? ⟨w.heap.size, 0, none⟩ = some (.string x0) := (blk_cell hX3 0).trans rfl; have k1 : w3.cell? ⟨w.heap.size, 1, none⟩ = some (.string x1) := (blk_cell hX3 1).trans rfl; have k2 : w3.cell? ⟨w.heap.size + 1, 0, none⟩ = some (.string r0) := (blk_cell hZ3 0).trans rfl; have k3 : w3.cell? ⟨w.heap.size + 1, 1, none⟩ = some (.string r1) := (blk_cell hZ3 1).trans rfl; have hlt : w.heap.size + 1 < w3.heap.size := blk_lt hZ3; clear hRa hRb hB3 hX3 hZ3))
  go_region_held3 (fun w' => w'.cell? ⟨w.heap.size, 0, none⟩ = some (.string x0) ∧ w'.cell? ⟨w.heap.size, 1, none⟩ = some (.string x1) ∧ w'.cell? ⟨w.heap.size + 1, 0, none⟩ = some (.string r0) ∧ w'.cell? ⟨w.heap.size + 1, 1, none⟩ = some (.string r1))
    ((first | go_keep | exact ⟨by assumption, by assumption, by assumption, by assumption⟩))
    ((first
      | (go_at_call 65; refine (block_Put.calls k A0 c0 y x0 x1 p _ (Kd.C_drew (Kd.C_below HC.out HB3.out)) HYC.out HP.out).mono ?_; rintro e w4 ⟨v4, rfl, hR4, hb4⟩; obtain ⟨B4, d4, rfl⟩ := Kd.R_slice hR4; have m0w4 : w4.cell? ⟨w.heap.size, 0, none⟩ = some (.string x0) := (catchmentlaw10_BlockOwn.held hb4 _ _ (by simp; omega)).trans k0; have m1w4 : w4.cell? ⟨w.heap.size, 1, none⟩ = some (.string x1) := (catchmentlaw10_BlockOwn.held hb4 _ _ (by simp; omega)).trans k1; have m2w4 : w4.cell? ⟨w.heap.size + 1, 0, none⟩ = some (.string r0) := (catchmentlaw10_BlockOwn.held hb4 _ _ (by simp; omega)).trans k2; have m3w4 : w4.cell? ⟨w.heap.size + 1, 1, none⟩ = some (.string r1) := (catchmentlaw10_BlockOwn.held hb4 _ _ (by simp; omega)).trans k3)
      | (go_at_call 67; refine (block_Drop.calls k A0 c0 y x0 d _ (Kd.C_below (Kd.C_drew (Kd.C_below HC.out HB3.out)) hb4) HYC.out HD.out).mono ?_; rintro e w5 ⟨v5, rfl, hR5, hb5⟩; obtain ⟨B5, d5, rfl⟩ := Kd.R_slice hR5; have m0w5 : w5.cell? ⟨w.heap.size, 0, none⟩ = some (.string x0) := (catchmentlaw10_BlockOwn.held hb5 _ _ (by have := hb4.size; simp at this; omega)).trans m0w4; have m1w5 : w5.cell? ⟨w.heap.size, 1, none⟩ = some (.string x1) := (catchmentlaw10_BlockOwn.held hb5 _ _ (by have := hb4.size; simp at this; omega)).trans m1w4; have m2w5 : w5.cell? ⟨w.heap.size + 1, 0, none⟩ = some (.string r0) := (catchmentlaw10_BlockOwn.held hb5 _ _ (by have := hb4.size; simp at this; omega)).trans m2w4; have m3w5 : w5.cell? ⟨w.heap.size + 1, 1, none⟩ = some (.string r1) := (catchmentlaw10_BlockOwn.held hb5 _ _ (by have := hb4.size; simp at this; omega)).trans m3w4)
      | (go_at_call 68; refine (block_Cut.calls k A0 c0 y r0 r1 c _ (Kd.C_below (Kd.C_below (Kd.C_drew (Kd.C_below HC.out HB3.out)) hb4) hb5) HYC.out HCU.out).mono ?_; rintro e w6 ⟨v6, rfl, hR6, hb6⟩; obtain ⟨B6, d6, rfl⟩ := Kd.R_slice hR6; have m0w6 : w6.cell? ⟨w.heap.size, 0, none⟩ = some (.string x0) := (catchmentlaw10_BlockOwn.held hb6 _ _ (by have := hb4.size; have := hb5.size; simp at *; omega)).trans m0w5; have m1w6 : w6.cell? ⟨w.heap.size, 1, none⟩ = some (.string x1) := (catchmentlaw10_BlockOwn.held hb6 _ _ (by have := hb4.size; have := hb5.size; simp at *; omega)).trans m1w5; have m2w6 : w6.cell? ⟨w.heap.size + 1, 0, none⟩ = some (.string r0) := (catchmentlaw10_BlockOwn.held hb6 _ _ (by have := hb4.size; have := hb5.size; simp at *; omega)).trans m2w5; have m3w6 : w6.cell? ⟨w.heap.size + 1, 1, none⟩ = some (.string r1) := (catchmentlaw10_BlockOwn.held hb6 _ _ (by have := hb4.size; have := hb5.size; simp at *; omega)).trans m3w5)
      | (go_at_call 70; refine (block_Apply.calls k A0 c0 y 0 0 ⟨#[]⟩ ⟨#[]⟩ ⟨#[]⟩ 0 ap _ (Kd.C_below (Kd.C_below (Kd.C_below (Kd.C_drew (Kd.C_below HC.out HB3.out)) hb4) hb5) hb6) HYC.out HAP.out).mono ?_; rintro e w7 ⟨v7, rfl, hR7, hb7⟩; obtain ⟨B7, d7, rfl⟩ := Kd.R_slice hR7; have m0w7 : w7.cell? ⟨w.heap.size, 0, none⟩ = some (.string x0) := (catchmentlaw10_BlockOwn.held hb7 _ _ (by have := hb4.size; have := hb5.size; have := hb6.size; simp at *; omega)).trans m0w6; have m1w7 : w7.cell? ⟨w.heap.size, 1, none⟩ = some (.string x1) := (catchmentlaw10_BlockOwn.held hb7 _ _ (by have := hb4.size; have := hb5.size; have := hb6.size; simp at *; omega)).trans m1w6; have m2w7 : w7.cell? ⟨w.heap.size + 1, 0, none⟩ = some (.string r0) := (catchmentlaw10_BlockOwn.held hb7 _ _ (by have := hb4.size; have := hb5.size; have := hb6.size; simp at *; omega)).trans m2w6; have m3w7 : w7.cell? ⟨w.heap.size + 1, 1, none⟩ = some (.string r1) := (catchmentlaw10_BlockOwn.held hb7 _ _ (by have := hb4.size; have := hb5.size; have := hb6.size; simp at *; omega)).trans m3w6)))
  have b34 : Below w3.heap.size w3 w4 := ((Below.refl w3.heap.size w3).drew).trans hb4
  have ba : Below w7.heap.size w7 (w7.alloc (.cells #[.slice B4 p.length d4, .slice B5 d.length d5, .slice B6 c.length d6, .slice B7 ap.length d7, .slice Ba h1.length da, .slice Bb h2.length db] 22)) := (Below.refl _ w7).alloc (Nat.le_refl _) _
  have s3 := HQ3.out.size
  have s4 := b34.size
  have s5 := hb5.size
  have s6 := hb6.size
  have s7 := hb7.size
  have HLP : Aside0 (Lp 25 2 22 w2 (w7.alloc (.cells #[.slice B4 p.length d4, .slice B5 d.length d5, .slice B6 c.length d6, .slice B7 ap.length d7, .slice Ba h1.length da, .slice Bb h2.length db] 22)) w7.heap.size #[.slice B4 p.length d4, .slice B5 d.length d5, .slice B6 c.length d6, .slice B7 ap.length d7, .slice Ba h1.length da, .slice Bb h2.length db]) := by
    refine ⟨⟨?_, heap_alloc_new w7 _, ?_⟩⟩
    · exact ((((HQ3.out.trans (b34.mono s3)).trans (hb5.mono (by omega))).trans (hb6.mono (by omega))).trans (hb7.mono (by omega))).trans (ba.mono (by omega))
    · intro i hi
      match i, hi with
      | 0, _ => exact (((((Wr.of_R hR4).lower (base' := w2.heap.size) (by simpa using s3)).below hb5).below hb6).below hb7).below ba
      | 1, _ => exact ((((Wr.of_R hR5).lower (base' := w2.heap.size) (by omega)).below hb6).below hb7).below ba
      | 2, _ => exact (((Wr.of_R hR6).lower (base' := w2.heap.size) (by omega)).below hb7).below ba
      | 3, _ => exact ((Wr.of_R hR7).lower (base' := w2.heap.size) (by omega)).below ba
      | 4, _ => exact ((((HRa.out.below b34).below hb5).below hb6).below hb7).below ba
      | 5, _ => exact ((((HRb.out.below b34).below hb5).below hb6).below hb7).below ba
      | n + 6, h => exact absurd h (by simp)
  have HVS : Aside0 ((#[.slice B4 p.length d4, .slice B5 d.length d5, .slice B6 c.length d6, .slice B7 ap.length d7, .slice Ba h1.length da, .slice Bb h2.length db] : Array Value).size = 6) := ⟨rfl⟩
  clear b34 ba s3 s4 s5 s6 s7 hb4 hb5 hb6 hb7 hR4 hR5 hR6 hR7 m0w4 m1w4 m2w4 m3w4 m0w5 m1w5 m2w5 m3w5 m0w6 m1w6 m2w6 m3w6 m0w7 m1w7 m2w7 m3w7 k0 k1 k2 k3 hlt HRa HRb
  generalize (#[.slice B4 p.length d4, .slice B5 d.length d5, .slice B6 c.length d6, .slice B7 ap.length d7, .slice Ba h1.length da, .slice Bb h2.length db] : Array Value) = vs at HLP HVS ⊢
  generalize w7.alloc (.cells vs 22) = w8 at HLP ⊢
  generalize w7.heap.size = gl at HLP ⊢
  go_wp2
  go_loopw [11] (fun i wr => ∃ m : Nat, m ≤ 6 ∧ i = .int .i64 (m : Int) ∧ Aside0 (Lp 25 2 22 w2 wr gl vs)) (fun i _ => 6 - (intOf i).toNat)
  case atStart => exact ⟨0, by omega, rfl, HLP⟩
  case round =>
    clear HLP
    obtain ⟨m, hm, rfl, HLP⟩ := hrel
    by_cases hlt : m < 6
    · have hmv : m < vs.size := by have := HVS.out; omega
      obtain ⟨A, n, cc, hv, hn, _⟩ := HLP.out.own m hmv
      have hcell : ∀ W, Aside0 (Lp 25 2 22 w2 W gl vs) → W.cell? ⟨gl, m, none⟩ = some (.slice A n cc) := fun W h => by
        rw [blk_cell h.out.lst m, Array.getElem?_eq_getElem hmv, hv]
      have HCELL := Aside0.mk hcell
      have HV := Aside0.mk (⟨hmv, hv⟩ : ∃ h : m < vs.size, vs[m] = .slice A n cc)
      have hn2 : n ≤ 9223372036854775807 := hn
      have q0 := HCELL.out wr HLP
      clear hcell hv hn
      go_wp2
      go_loopw [12] (fun kk wk => ∃ q : Nat, q ≤ n ∧ kk = .int .i64 (q : Int) ∧ Aside0 (Lp 25 2 22 w2 wk gl vs)) (fun kk _ => n - (intOf kk).toNat)
      case atStart => exact ⟨0, by omega, rfl, HLP⟩
      case round =>
        clear HLP q0
        obtain ⟨q, hq, rfl, HLP⟩ := hrel
        have q0 := HCELL.out _ HLP
        by_cases hqn : q < n
        · have ho := HLP.out.own m hmv
          obtain ⟨_, hv⟩ := HV.out
          rw [hv] at ho
          obtain ⟨A2, n2, c2, hv2, _, hw2⟩ := ho
          simp only [Value.slice.injEq] at hv2
          obtain ⟨rfl, rfl, rfl⟩ := hv2
          obtain ⟨g, cur, rfl, hb, hg, hs⟩ := hw2 (by omega)
          have HG := Aside0.mk hg
          have HBG := Aside0.mk hb
          have HSZ := Aside0.mk hs
          clear hv hw2 hg hb hs
          go_wp2_with (refine storeN rfl (p := 64) rfl rfl (.agg #[.string ⟨#[]⟩, .string ⟨#[]⟩]) [.string ⟨#[]⟩, .string ⟨#[]⟩] (g := g) (i := q * 2) (by first | rfl | (simp [Act.eval, Act.put]; done) | go_simp) (by first | rfl | (simp [Act.eval, Act.put]; done) | go_simp) rfl HG.out (by have := HSZ.out; simp; omega) (by kernel_rfl) (by simp [Value.oneCell']) ?_; intro wx cur' hx hs' hgr; have HL2 := Aside0.mk (HLP.out.put (by decide) HBG.out HG.out hx hs' hgr); clear hx hs' hgr)
          go_roundw
          case rel => exact ⟨q + 1, by omega, by go_num, HL2⟩
          case measure => simp [intOf]; omega
        · obtain rfl : q = n := by omega
          go_wp2
          go_roundw
          case rel => exact ⟨m + 1, by omega, by go_num, HLP⟩
          case measure => simp [intOf]; omega
    · obtain rfl : m = 6 := by omega
      have hW := HLP.out.low
      have HCw := Aside0.mk (Kd.C_below (Kd.C_below HC.out HB2.out) (hW.mono (Nat.le_refl _)))
      obtain ⟨A9, c9, rfl, hc9, hC9⟩ := Kd.R_reads HR2.out
      have HW := Aside0.mk (HB2.out.trans (hW.mono HB2.out.size))
      have HC9 := Aside0.mk (Kd.C_below hC9 hW)
      have HCC := Aside0.mk hc9
      clear hW hC9 hc9
      rw [List.nil_append] at *
      go_wp2_with (first
        | (go_at_call 16; refine (catchmentlaw10_live.calls k true _ HL.out).mono ?_; rintro e wz ⟨rfl, hbz⟩; have HBZ := Aside0.mk (HW.out.trans (hbz.mono HW.out.size)); have HCa := Aside0.mk (Kd.C_below HCw.out hbz); have HCb := Aside0.mk (Kd.C_below HC9.out hbz); clear hbz)
        | (go_at_call 21; refine (catchmentref05_Same.calls k A0 c0 y A9 c9 y r _ HCa.out HYC.out HCb.out HCC.out HSM.out).mono ?_; rintro e wy ⟨rfl, hdy⟩; have HBY := Aside0.mk (HBZ.out.trans (hdy.below.mono HBZ.out.size)); clear hdy))
      go_ret
      exact ⟨rfl, HBY.out⟩
theorem catchmentlaw10_BlockOwn.mono : ∀ a0 a1 a2 a3 a4 k, LeO (catchmentlaw10_BlockOwn.f k a0 a1 a2 a3 a4) (catchmentlaw10_BlockOwn.f (k + 1) a0 a1 a2 a3 a4) := by
  intro a0 a1 a2 a3 a4 k
  unfold catchmentlaw10_BlockOwn.f
  exact LeO.bind (catchmentref05_Rises.mono _ _) (fun _ => LeO.ite (LeO.bind (LeO.refl _) (fun _ => LeO.bind (block_Put.mono _ _ _ _) (fun _ => LeO.bind (block_Drop.mono _ _ _) (fun _ => LeO.bind (block_Cut.mono _ _ _ _) (fun _ => LeO.bind (block_Apply.mono _ _ _ _ _ _ _ _) (fun _ => LeO.bind (catchmentlaw10_live.mono _) (fun _ => LeO.ite (catchmentref05_Same.mono _ _ _) (LeO.none _)))))))) (catchmentlaw10_live.mono _))
theorem catchmentlaw10_BlockOwn.calls (k : Nat) (A0 : Option Addr) (c0 : Nat) (l0 : List S25) (x0 x1 r0 r1 : ByteArray) (r : Bool) (w : World) (hr0 : Kd.C k25 w A0 l0.length l0) (hc0 : l0.length ≤ c0) (h : catchmentlaw10_BlockOwn.f k l0 x0 x1 r0 r1 = some r) :
    Calls Try.prog 14 #[.slice A0 l0.length c0, .agg #[.string x0, .string x1], .agg #[.string r0, .string r1]] w fun e w' => e = .returned (.bool r) ∧ Below w.heap.size w w' := by
  obtain ⟨t, ht, h⟩ := Option.bind_eq_some_iff.1 h
  cases t with
  | false =>
    rw [if_neg (by decide)] at h
    exact catchmentlaw10_BlockOwn.flat k A0 c0 l0 x0 x1 r0 r1 r w hr0 hc0 ht h
  | true =>
    rw [if_pos rfl] at h
    obtain ⟨⟨h1, h2⟩, hh, h⟩ := Option.bind_eq_some_iff.1 h
    obtain ⟨p, hp, h⟩ := Option.bind_eq_some_iff.1 h
    obtain ⟨d, hd, h⟩ := Option.bind_eq_some_iff.1 h
    obtain ⟨c, hc, h⟩ := Option.bind_eq_some_iff.1 h
    obtain ⟨ap, ha, h⟩ := Option.bind_eq_some_iff.1 h
    obtain ⟨lv, hv, h⟩ := Option.bind_eq_some_iff.1 h
    cases lv with
    | false => rw [if_neg (by decide)] at h; cases h
    | true =>
      rw [if_pos rfl] at h
      exact catchmentlaw10_BlockOwn.deep k A0 c0 l0 x0 x1 r0 r1 h1 h2 p d c ap r w hr0 hc0 ht hh hp hd hc ha hv h
def ok25 (y : S25) : Prop := (fun s : ByteArray => s.size ≤ 140737488351232) y.f0 ∧ (fun s : ByteArray => s.size ≤ 140737488351232) y.f1
def ok48 (y : S48) : Prop := (fun s : ByteArray => s.size ≤ 140737488351232) y.f0 ∧ (fun s : ByteArray => s.size ≤ 140737488351232) y.f1
/-- THE ONE PURE STATEMENT of catchmentlaw10_BlockOwn. -/
def catchmentlaw10_BlockOwn.Pure : Prop := ∀ (l0 : List (S25)) (y1 : S25) (y2 : S48), (fun xs : List (S25) => xs.length ≤ maxLen ∧ xs.length * 32 ≤ 140737488351232 ∧ ∀ x ∈ xs, ok25 x) l0 → ok25 y1 → ok48 y2 → ∃ k, catchmentlaw10_BlockOwn.f k l0 y1.f0 y1.f1 y2.f0 y2.f1 = some true
theorem catchmentlaw10_BlockOwn.walk (P : catchmentlaw10_BlockOwn.Pure) (A0 : Option Addr) (c0 : Nat) (l0 : List (S25)) (y1 : S25) (y2 : S48) (w : World) (hr0 : Kd.C k25 w A0 l0.length l0) (hc0 : l0.length ≤ c0) (ok_0 : (fun xs : List (S25) => xs.length ≤ maxLen ∧ xs.length * 32 ≤ 140737488351232 ∧ ∀ x ∈ xs, ok25 x) l0) (ok_1 : ok25 y1) (ok_2 : ok48 y2) :
    Calls Try.prog 14 #[.slice A0 l0.length c0, .agg #[.string y1.f0, .string y1.f1], .agg #[.string y2.f0, .string y2.f1]] w fun e w' => e = .returned (.bool true) ∧ Below w.heap.size w w' := by
  obtain ⟨k, h⟩ := P l0 y1 y2 ok_0 ok_1 ok_2
  refine (catchmentlaw10_BlockOwn.calls k A0 c0 l0 y1.f0 y1.f1 y2.f0 y2.f1 true w hr0 hc0 h).mono ?_
  rintro e w' ⟨rfl, hd⟩
  exact ⟨rfl, hd⟩

end Go.Proofs.Ytnklnjghecmihaa.H5
