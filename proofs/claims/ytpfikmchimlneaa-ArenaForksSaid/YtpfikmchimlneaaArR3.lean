/- The reference's arena: Give where there is one. -/
import Derived.Test.YtpfikmchimlneaaArR2
set_option linter.unusedVariables false
set_option linter.unusedSimpArgs false
namespace Go.Proofs.Ytpfikmchimlneaa.Ar
open Go.RowKit Go.Proofs.YtpfikmchimlneaaW.PrintWords Go.Proofs.YtpfikmchimlneaaW.PrintWords.Kd Go.Proofs.YtpfikmchimlneaaW.PrintLast Go.Proofs.YtpfikmchimlneaaW.PrintMore Go.Proofs.YtpfikmchimlneaaW.Sl Go.Proofs.YtpfikmchimlneaaW.Ar
variable {B g : Nat} {W W' : World} {X : Array Value} {r : Rf}
theorem RV.below (h : RV B W X r) {b : Nat} (hb : Below b W W') (hw : W.heap.size ≤ b) : RV B W' X r := h.keep (hb.mono hw)
set_option maxHeartbeats 8000000 in
set_option maxRecDepth 100000 in
theorem ref_give_yes (w : World) (h : RV B w X r) (hB : B ≤ w.heap.size) (hl : r.back.length < 1000000) (i : Int) (hi : rhas r i = true) : Calls Try.prog 60 #[.agg X, .int .i64 i] w (told2 B w (rgive r i) 0) := by
  obtain ⟨W, hW, hh, hz, hb⟩ := ini w X
  obtain ⟨j, rfl, hj1, hj, _⟩ := rhas_yes hi
  have hsz : w.heap.size + 2 ≤ W.heap.size := by have := blk_lt hz; omega
  have HW := Aside0.mk hW
  have HH := Aside0.mk hh
  have HZ := Aside0.mk hz
  have HB := Aside0.mk hb
  have HR := Aside0.mk h
  have HI := Aside0.mk hi
  have HSZ := Aside0.mk hsz
  have HL := Aside0.mk hl
  have HBB := Aside0.mk hB
  clear hh hz hb h hi hW hsz hl hB
  go_enter Try.func60, Try.ntmps60
  go_wp2_with (first
    | (refine wpList_load_row rfl 42 (.tmp 2) rfl w.heap.size rfl 42 X (0, 0) _ (HW.out ▸ HH.out) Try.underlying42 rfl (by rw [HR.out.sz]; exact info42) ?_; rw [HW.out])
    | (go_at_call 63; refine (HR.out.keep HB.out |> fun hr => ref_there W hr (j : Int)).mono ?_; rintro e w1 ⟨rfl, hb⟩; have HB1 := Aside0.mk hb; rw [HI.out]; have HH1 := Aside0.mk (blk_below HH.out hb); have HZ1 := Aside0.mk (blk_below HZ.out hb); have HS1 := Aside0.mk (Nat.le_trans HSZ.out hb.size); clear hb; have hc2 := (blk_cell HH1.out (2 + j)).trans (HR.out.tk j hj); have hc := (blk_cell HH1.out (66 + j)).trans (HR.out.vl j hj); have hf := blk_frozen HH1.out (66 + j); have hf2 := blk_frozen HH1.out (2 + j);
        have HX3 := Aside0.mk (blk_alloc (blk_set (blk_set HH1.out (2 + j) (.bool false)) (66 + j) (.int .i64 0)) (.cells #[] 3));
        have HZ3 := Aside0.mk (blk_alloc (blk_far (blk_far HZ1.out (p := ⟨w.heap.size, 2 + j, none⟩) (by simp) (.bool false)) (p := ⟨w.heap.size, 66 + j, none⟩) (by simp) (.int .i64 0)) (.cells #[] 3));
        have HB3 := Aside0.mk (((((HB.out.trans (HB1.out.mono HB.out.size)).setCell (p := ⟨w.heap.size, 2 + j, none⟩) (Nat.le_refl _) (.bool false))).setCell (p := ⟨w.heap.size, 66 + j, none⟩) (Nat.le_refl _) (.int .i64 0)).alloc (by have := HS1.out; simp; omega) (.cells #[] 3));
        have hnil := grown_nil (Kd.int .i64) (W := ((w1.setCell ⟨w.heap.size, 2 + j, none⟩ (.bool false)).setCell ⟨w.heap.size, 66 + j, none⟩ (.int .i64 0))) 3 #[] 0 (by decide) rfl;
        rw [World.size_setCell, World.size_setCell] at hnil;
        have HNIL := Aside0.mk (R_lower hnil HS1.out);
        have hrv := ((HR.out.setTk j hj false).setVl j hj 0).keep HB3.out;
        obtain ⟨vb, hvb, hRb⟩ := hrv.bk; obtain ⟨Ab, cb, rfl⟩ := R_slice hRb;
        have HRV := Aside0.mk hrv; have HRB := Aside0.mk (R_reads' hRb).2.2;
        have h130 := (blk_cell HX3.out 130).trans hvb;
        clear hnil hrv hvb hRb)
    | ((with_reducible refine gate_builtin (b := .append) (xs := #[.tmp 17, .tmp 19]) rfl ?_); at_builtin; refine Kd.R_append_rows (Kd.int .i64) (Rr := (Kd.int .i64).K w1) (w0 := _) (w.heap.size + 2) rfl (.tmp 17) (.tmp 19) 40 3 (.int .i64 0) 8 rfl Try.underlying40 info3 rfl (by decide) (by decide) (.slice (some ⟨w1.heap.size, 0, none⟩) 0 0) [] r.back Ab r.back.length cb (fun _ => True) (fun _ => False) rfl rfl HNIL.out HRB.out (fun _ _ h => h) (fun _ h => h.elim) (fun _ _ => trivial) (Below.refl _ _) (by have := HS1.out; simp; omega) (by have := HL.out; simp; omega) ?_; intro v1 w2 hR1 hB1 hG1 hat; have HR1 := Aside0.mk hR1; have HG1 := Aside0.mk hG1; have HX4 := Aside0.mk (blk_grown HX3.out hG1 (by have := HS1.out; simp [Value.ownBlock]; omega)); have HZ4 := Aside0.mk (blk_grown HZ3.out hG1 (by have := HS1.out; simp [Value.ownBlock]; omega)); have HS4 := Aside0.mk hG1.size; clear hR1 hB1 hG1 hat)
    | ((with_reducible refine gate_builtin (b := .append) (xs := #[.tmp 20, .tmp 22]) rfl ?_); at_builtin; refine Kd.R_append (Kd.int .i64) (w0 := _) (w.heap.size + 2) rfl (.tmp 20) (.tmp 22) 40 3 (.int .i64 0) 8 rfl Try.underlying40 info3 rfl (by decide) (by decide) v1 ([] ++ r.back) (j : Int) [.int .i64 (j : Int)] (fun _ => True) (fun _ => False) rfl (by first | rfl | (simp [Act.eval, World.setCell]; done)) rfl (fun _ h => h.elim) (fun _ _ => trivial) HR1.out (Below.refl _ _) (by have := HS1.out; have := HS4.out; simp at this; omega) (by have := HL.out; simp; omega) ?_; intro v3 w3 hR3 hB3 hG3 hat; have HX5 := Aside0.mk (blk_grown HX4.out hG3 (fun e => by have := R_base HR1.out _ e.symm; omega)); have HZ5 := Aside0.mk (blk_grown HZ4.out hG3 (fun e => by have := R_base HR1.out _ e.symm; omega)); obtain ⟨A3, c3, rfl⟩ := R_slice hR3; generalize ([] ++ r.back ++ [(j : Int)]).length = n3 at hR3 ⊢; have HX6 := Aside0.mk (blk_set HX5.out 130 (.slice A3 n3 c3)); have HZ6 := Aside0.mk (blk_far HZ5.out (p := ⟨w.heap.size, 130, none⟩) (by simp) (.slice A3 n3 c3)); have HRX := Aside0.mk (HRV.out.setBack (R_lower hR3 (Nat.le_trans HBB.out (Nat.le_add_right _ 2)))); have HR3 := Aside0.mk hR3; have HG3 := Aside0.mk hG3; obtain ⟨vb, hvb, hRb⟩ := HRV.out.bk; obtain ⟨Ab2, cb2, rfl⟩ := R_slice hRb; have h130 := (blk_cell HX5.out 130).trans hvb; have f130 := blk_frozen HX5.out 130; clear hR3 hB3 hG3 hat hvb hRb)
    | (refine wpList_load_row rfl 42 (.tmp 2) rfl w.heap.size rfl 42 _ (0, 0) _ HX6.out Try.underlying42 rfl (by rw [HRX.out.sz]; exact info42) ?_)
    | (refine wpList_store_row rfl 42 (.tmp 4) (.tmp 25) rfl (w.heap.size + 1) (((X.setIfInBounds (2 + j) (.bool false)).setIfInBounds (66 + j) (.int .i64 0)).setIfInBounds 130 (.slice A3 n3 c3)) rfl rfl 42 Try.zeroCells42 HZ6.out (by rw [HRX.out.sz]; exact info42) (by rw [HRX.out.sz]; exact zero42) HRX.out.one ?_))
  have hz7 := setRow_heap _ (w.heap.size + 1) Try.zeroCells42 (((X.setIfInBounds (2 + j) (.bool false)).setIfInBounds (66 + j) (.int .i64 0)).setIfInBounds 130 (.slice A3 n3 c3)) 42 (0, 0) HZ6.out
  refine bodyPost_ret (results_42a rfl rfl rfl HRX.out.sz hz7) rfl ?_
  have h42 : ∀ q, q ∈ 3 :: (Kd.int .i64).E → q ≠ 42 := by intro q hq; simp [Kd.int, Kd.scalar] at hq; omega
  have hRb : ∀ k, v1.ownBlock = some k → w.heap.size ≤ k := fun k hk => by have := R_base HR1.out k hk; omega
  have hs3 : w.heap.size ≤ (((w1.setCell ⟨w.heap.size, 2 + j, none⟩ (.bool false)).setCell ⟨w.heap.size, 66 + j, none⟩ (.int .i64 0)).alloc (.cells #[] 3)).heap.size := HB3.out.size
  have hb4 : Below w.heap.size w w2 := HB3.out.grown HG1.out hs3 (fun k e => by have := HS1.out; simp [Value.ownBlock] at e; omega)
  have hb5 : Below w.heap.size w w3 := hb4.grown HG3.out hb4.size hRb
  have hb6 := hb5.setCell (p := ⟨w.heap.size, 130, none⟩) (Nat.le_refl _) (.slice A3 n3 c3)
  have hb9 := hb6.grown (setRow_grown _ (w.heap.size + 1) (((X.setIfInBounds (2 + j) (.bool false)).setIfInBounds (66 + j) (.int .i64 0)).setIfInBounds 130 (.slice A3 n3 c3))) hb6.size (fun k e => by injection e with e; omega)
  refine ⟨_, rfl, ?_, hb9⟩
  have h7 := R_set HR3.out HX5.out h42 130 (.slice A3 n3 c3)
  have h8 := R_grown (R_types h7 HZ6.out h42) (setRow_grown _ (w.heap.size + 1) (((X.setIfInBounds (2 + j) (.bool false)).setIfInBounds (66 + j) (.int .i64 0)).setIfInBounds 130 (.slice A3 n3 c3))) (fun k hk e => hk.2 (by injection e))
  have h9 := HRV.out.setBack (R_lower (R_mono h8 (fun _ _ => trivial)) (Nat.le_trans HBB.out (Nat.le_add_right _ 2)))
  simpa [rgive] using h9
end Go.Proofs.Ytpfikmchimlneaa.Ar
