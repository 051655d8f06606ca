/- law08's step: looks. -/
import Derived.Test.YtpfikmchimlneaaArStep3
set_option linter.unusedVariables false
set_option linter.unusedSimpArgs false
namespace Go.Proofs.Ytpfikmchimlneaa.Ar
open Go.Proofs.YtpfikmchimlneaaW.Mine Go.RowKit Go.Proofs.YtpfikmchimlneaaW.PrintWords Go.Proofs.YtpfikmchimlneaaW.PrintWords.Kd Go.Proofs.YtpfikmchimlneaaW.PrintLast Go.Proofs.YtpfikmchimlneaaW.PrintMore Go.Proofs.YtpfikmchimlneaaW.Sl Go.Proofs.YtpfikmchimlneaaW.Ar
variable {B g : Nat} {w W V W' : World} {X X' : Array Value} {r r' : Rf} {v v' : Value} {s s' : St Int}
set_option maxHeartbeats 8000000 in
set_option maxRecDepth 100000 in
theorem step_gone (w : World) (hA : AI B w g v s) (hR : RV B w X r) (hBw : B ≤ w.heap.size) (hbd : Bd s) (D I N : Int) (h0 : D ≠ 0) (h1 : D ≠ 1) (h2 : D ≠ 2) (h3 : D ≠ 3) (hi : rhas r I = false) (hg : get s I = (0, false)) :
    Calls Try.prog 20 #[.pointer (some ⟨g, 0, none⟩), .agg X, .agg #[.int .i64 D, .int .i64 I, .int .i64 N]] w (stepPost B w g v s r) := by
  obtain ⟨W, hW, hSB, hb⟩ := ini3 w X D I N
  have HW := Aside0.mk hW
  have HSB := Aside0.mk hSB
  have HA := Aside0.mk (hA.keep hb)
  have HRV := Aside0.mk (hR.keep hb)
  have HO := Aside0.mk (Only.of_below (g := g) (r := v.ownBlock) hb)
  have HBB := Aside0.mk (Nat.le_trans hBw hb.size)
  have HBD := Aside0.mk hbd
  have c0 := (blk_cell hSB.hd 0).trans rfl
  have c1 := (blk_cell hSB.hd 1).trans rfl
  have c2 := (blk_cell hSB.hd 2).trans rfl
  have d0 : (D == 0) = false := beq_eq_false_iff_ne.2 h0
  have d1 : (D == 1) = false := beq_eq_false_iff_ne.2 h1
  have d2 : (D == 2) = false := beq_eq_false_iff_ne.2 h2
  have d3 : (D == 3) = false := beq_eq_false_iff_ne.2 h3
  have hgi := get_int W (hA.keep hb) I hbd.c
  rw [hg] at hgi
  have HG := Aside0.mk hgi
  have HI := Aside0.mk hi
  have hXs := hR.sz
  have HXS := Aside0.mk hXs
  have HXO := Aside0.mk hR.one
  have hx := hSB.hx
  have HX := Aside0.mk hx
  clear hb hA hbd hBw hg hgi hi hXs hx hR h0 h1 h2 h3
  go_enter Try.func20, Try.ntmps20
  go_wp2_with (first
    | (go_at_call 55; refine HG.out.mono ?_; rintro e w1 ⟨rfl, rfl⟩)
    | (refine wpList_load_row rfl 42 (.tmp 4) rfl _ rfl 42 X (0, 0) _ HX.out Try.underlying42 rfl (by rw [HXS.out]; exact info42) ?_)
    | (go_at_call 63; refine (ref_there W HRV.out I).mono ?_; rintro e w2 ⟨rfl, hb2⟩; rw [HI.out]; have HX2 := Aside0.mk (blk_below HX.out hb2); have HSB2 := Aside0.mk (HSB.out.below hb2); have HA2 := Aside0.mk (HA.out.keep hb2); have HR2 := Aside0.mk (HRV.out.keep hb2); have HO2 := Aside0.mk (onlyThen HO.out hb2); clear hb2)
    | (refine wpList_load_row rfl 42 (.tmp 4) rfl _ rfl 42 X (0, 0) _ HX2.out Try.underlying42 rfl (by rw [HXS.out]; exact info42) ?_)
    | (refine wpList_store_row rfl 42 (.tmp 6) (.tmp 130) rfl _ X rfl rfl 42 Try.zeroCells42 HSB2.out.hz (by rw [HXS.out]; exact info42) (by rw [HXS.out]; exact zero42) HXO.out ?_)
    | fail)
  obtain ⟨f1, f2⟩ := step_fin HA2.out HO2.out (.refl _ _) HR2.out HSB2.out.hz
  exact bodyPost_ret (results_42a rfl rfl rfl HXS.out (setRow_heap _ _ _ X _ _ HSB2.out.hz)) rfl ⟨X, rfl, f1, f2⟩
set_option maxHeartbeats 8000000 in
set_option maxRecDepth 100000 in
theorem step_there (w : World) (hA : AI B w g v s) (hR : RV B w X r) (hBw : B ≤ w.heap.size) (hbd : Bd s) (D I N : Int) (h0 : D ≠ 0) (h1 : D ≠ 1) (h2 : D ≠ 2) (h3 : D ≠ 3) (hi : rhas r I = true) (hg : get s I = (r.vl.getD I.toNat 0, true)) :
    Calls Try.prog 20 #[.pointer (some ⟨g, 0, none⟩), .agg X, .agg #[.int .i64 D, .int .i64 I, .int .i64 N]] w (stepPost B w g v s r) := by
  obtain ⟨W, hW, hSB, hb⟩ := ini3 w X D I N
  have HW := Aside0.mk hW
  have HSB := Aside0.mk hSB
  have HA := Aside0.mk (hA.keep hb)
  have HRV := Aside0.mk (hR.keep hb)
  have HO := Aside0.mk (Only.of_below (g := g) (r := v.ownBlock) hb)
  have HBB := Aside0.mk (Nat.le_trans hBw hb.size)
  have HBD := Aside0.mk hbd
  have c0 := (blk_cell hSB.hd 0).trans rfl
  have c1 := (blk_cell hSB.hd 1).trans rfl
  have c2 := (blk_cell hSB.hd 2).trans rfl
  have d0 : (D == 0) = false := beq_eq_false_iff_ne.2 h0
  have d1 : (D == 1) = false := beq_eq_false_iff_ne.2 h1
  have d2 : (D == 2) = false := beq_eq_false_iff_ne.2 h2
  have d3 : (D == 3) = false := beq_eq_false_iff_ne.2 h3
  have hgi := get_int W (hA.keep hb) I hbd.c
  rw [hg] at hgi
  have HG := Aside0.mk hgi
  obtain ⟨j, rfl, hj1, hj, _⟩ := rhas_yes hi
  have hj2 : (j : Int) < 64 := by omega
  have hj3 : (0 : Int) ≤ (j : Int) := by omega
  have HI := Aside0.mk hi
  have hXs := hR.sz
  have HXS := Aside0.mk hXs
  have HXO := Aside0.mk hR.one
  have hx := hSB.hx
  have HX := Aside0.mk hx
  clear hb hA hbd hBw hg hgi hi hXs hx hR h0 h1 h2 h3
  go_enter Try.func20, Try.ntmps20
  go_wp2_with (first
    | (go_at_call 55; refine HG.out.mono ?_; rintro e w1 ⟨rfl, rfl⟩)
    | (refine wpList_load_row rfl 42 (.tmp 4) rfl _ rfl 42 X (0, 0) _ HX.out Try.underlying42 rfl (by rw [HXS.out]; exact info42) ?_)
    | (go_at_call 63; refine (ref_there W HRV.out (j : Int)).mono ?_; rintro e w2 ⟨rfl, hb2⟩; rw [HI.out]; have HX2 := Aside0.mk (blk_below HX.out hb2); have HSB2 := Aside0.mk (HSB.out.below hb2); have HA2 := Aside0.mk (HA.out.keep hb2); have HR2 := Aside0.mk (HRV.out.keep hb2); have HO2 := Aside0.mk (onlyThen HO.out hb2); clear hb2)
    | (refine wpList_load_row rfl 42 (.tmp 4) rfl _ rfl 42 X (0, 0) _ HX2.out Try.underlying42 rfl (by rw [HXS.out]; exact info42) ?_)
    | (refine wpList_store_row rfl 42 (.tmp 6) (.tmp 130) rfl _ X rfl rfl 42 Try.zeroCells42 HSB2.out.hz (by rw [HXS.out]; exact info42) (by rw [HXS.out]; exact zero42) HXO.out ?_)
    | fail)
  refine start_ (n := 13) (S := (fun w' => w'.heap[w.heap.size]? = some (.cells X 42 (0, 0)) ∧ w'.heap[w.heap.size + 1]? = some (.cells #[.int .i64 D, .int .i64 (j : Int), .int .i64 N] 46 (0, 0)))) (ds := []) #[false, false, false, false, false, false, false, false, false, false, false, false, false] (by kernel_rfl) rfl rfl ⟨HX2.out, HSB2.out.hd⟩ (fun hHeld => ?_)
  have HV1 := Aside0.mk ((Below.refl w2.heap.size w2).drew)
  have HS42 := Aside0.mk hHeld
  clear hHeld
  generalize w2.drew = V1 at HV1 HS42 ⊢
  have HSB3 := Aside0.mk (HSB2.out.below HV1.out)
  refine take_ (i := 0) (N := some 137) (v := .agg X) (a' := ?a0) #[true, false, false, false, false, false, false, false, false, false, false, false, false] rfl rfl (by kernel_rfl) (fun _ _ _ h => h) (Or.inl ⟨by rfl, fun w' hw' => ?y0⟩) HS42.out ?ha0 ?h0
  case y0 =>
    exact ld42 rfl rfl HXS.out hw'.1
  case ha0 => (simp only [pt_, pn_, sz_, ss_, i64_w, i32_w]; rfl)
  refine pure_ (i := 1) (N := some 138) (v := ?_) (a' := ?_) #[true, true, false, false, false, false, false, false, false, false, false, false, false] rfl rfl (by kernel_rfl) (fun _ _ _ h => h) (Or.inl ⟨by rfl, ?_⟩) ?_ ?_
  rotate_left
  · intro w'
    (go_simp); (with_reducible rfl)
  rotate_left
  · simp only [pt_, pn_, sz_, ss_, i64_w, i32_w]; rfl
  refine pure_ (i := 2) (N := some 139) (v := ?_) (a' := ?_) #[true, true, true, false, false, false, false, false, false, false, false, false, false] rfl rfl (by kernel_rfl) (fun _ _ _ h => h) (Or.inl ⟨by rfl, ?_⟩) ?_ ?_
  rotate_left
  · intro w'
    (go_simp); (with_reducible rfl)
  rotate_left
  · simp only [pt_, pn_, sz_, ss_, i64_w, i32_w]; rfl
  refine pure_ (i := 3) (N := some 140) (v := ?_) (a' := ?_) #[true, true, true, true, false, false, false, false, false, false, false, false, false] rfl rfl (by kernel_rfl) (fun _ _ _ h => h) (Or.inl ⟨by rfl, ?_⟩) ?_ ?_
  rotate_left
  · intro w'
    (go_simp); (with_reducible rfl)
  rotate_left
  · simp only [pt_, pn_, sz_, ss_, i64_w, i32_w]; rfl
  refine pure_ (i := 4) (N := some 141) (v := ?_) (a' := ?_) #[true, true, true, true, true, false, false, false, false, false, false, false, false] rfl rfl (by kernel_rfl) (fun _ _ _ h => h) (Or.inl ⟨by rfl, ?_⟩) ?_ ?_
  rotate_left
  · intro w'
    (go_simp); (with_reducible rfl)
  rotate_left
  · simp only [pt_, pn_, sz_, ss_, i64_w, i32_w]; rfl
  refine take_ (i := 5) (N := some 142) (v := .int .i64 (j : Int)) (a' := ?a5) #[true, true, true, true, true, true, false, false, false, false, false, false, false] rfl rfl (by kernel_rfl) (fun _ _ _ h => h) (Or.inl ⟨by rfl, fun w' hw' => ?y5⟩) HS42.out ?ha5 ?h5
  case y5 =>
    (have hc := (blk_cell hw'.2 1).trans rfl; (go_simp; first | done | with_reducible rfl))
  case ha5 => (simp only [pt_, pn_, sz_, ss_, i64_w, i32_w]; rfl)
  refine pure_ (i := 6) (N := some 143) (v := ?_) (a' := ?_) #[true, true, true, true, true, true, true, false, false, false, false, false, false] rfl rfl (by kernel_rfl) (fun _ _ _ h => h) (Or.inl ⟨by rfl, ?_⟩) ?_ ?_
  rotate_left
  · intro w'
    (go_simp); (with_reducible rfl)
  rotate_left
  · simp only [pt_, pn_, sz_, ss_, i64_w, i32_w]; rfl
  refine pure_ (i := 7) (N := some 144) (v := ?_) (a' := ?_) #[true, true, true, true, true, true, true, true, false, false, false, false, false] rfl rfl (by kernel_rfl) (fun _ _ _ h => h) (Or.inl ⟨by rfl, ?_⟩) ?_ ?_
  rotate_left
  · intro w'
    (go_simp); (with_reducible rfl)
  rotate_left
  · simp only [pt_, pn_, sz_, ss_, i64_w, i32_w]; rfl
  refine take_ (i := 8) (N := some 145) (v := .int .i64 (r.vl.getD j 0)) (a' := ?a8) #[true, true, true, true, true, true, true, true, true, false, false, false, false] rfl rfl (by kernel_rfl) (fun _ _ _ h => h) (Or.inl ⟨by rfl, fun w' hw' => ?y8⟩) HS42.out ?ha8 ?h8
  case y8 =>
    (have hc := (blk_cell hw'.1 (66 + j)).trans (HR2.out.vl j hj); generalize r.vl.getD j 0 = yy at *; (go_simp; first | done | with_reducible rfl))
  case ha8 => (simp only [pt_, pn_, sz_, ss_, i64_w, i32_w]; rfl)
  refine pure_ (i := 9) (N := some 146) (v := ?_) (a' := ?_) #[true, true, true, true, true, true, true, true, true, true, false, false, false] rfl rfl (by kernel_rfl) (fun _ _ _ h => h) (Or.inl ⟨by rfl, ?_⟩) ?_ ?_
  rotate_left
  · intro w'
    (go_simp); (with_reducible rfl)
  rotate_left
  · simp only [pt_, pn_, sz_, ss_, i64_w, i32_w]; rfl
  refine pure_ (i := 10) (N := some 147) (v := ?_) (a' := ?_) #[true, true, true, true, true, true, true, true, true, true, true, false, false] rfl rfl (by kernel_rfl) (fun _ _ _ h => h) (Or.inl ⟨by rfl, ?_⟩) ?_ ?_
  rotate_left
  · intro w'
    (go_simp); (with_reducible rfl)
  rotate_left
  · simp only [pt_, pn_, sz_, ss_, i64_w, i32_w]; rfl
  refine one_ (i := 11) (N := none) #[true, true, true, true, true, true, true, true, true, true, true, true, false] rfl rfl (by kernel_rfl) (by decide) (fun K hK => ?_)
  rw [if_pos (by rfl)]
  refine wp_store_row 42 (.tmp 6) (.tmp 137) rfl (w.heap.size + 2) X rfl rfl 42 Try.zeroCells42 HSB3.out.hz (by rw [HXS.out]; exact info42) (by rw [HXS.out]; exact zero42) HXO.out ?_
  refine hK.out _ _ ⟨blk_row HS42.out.1 (by omega) X, blk_row HS42.out.2 (by omega) X⟩ (fun hHeld2 => ?_)
  clear hK hHeld2
  refine norm_ (a' := ?_) ?_ ?_
  rotate_left
  · show Act.put _ none _ = _
    simp only [pt_, pn_, sz_, ss_, i64_w, i32_w]
    rfl
  refine pure_ (i := 12) (N := some 7) (v := ?_) (a' := ?_) #[true, true, true, true, true, true, true, true, true, true, true, true, true] rfl rfl (by kernel_rfl) (fun _ _ _ h => h) (Or.inl ⟨by rfl, ?_⟩) ?_ ?_
  rotate_left
  · intro w'
    (go_simp); (with_reducible rfl)
  rotate_left
  · simp only [pt_, pn_, sz_, ss_, i64_w, i32_w]; rfl
  refine done_ (by kernel_rfl) ?_
  go_wp2_with fail
  obtain ⟨f1, f2⟩ := step_fin (HA2.out.keep HV1.out) (onlyThen HO2.out HV1.out) (.refl _ _) (HR2.out.keep HV1.out) HSB3.out.hz
  exact bodyPost_ret (results_42a rfl rfl rfl HXS.out (setRow_heap _ _ _ X _ _ HSB3.out.hz)) rfl ⟨X, rfl, f1, f2⟩
end Go.Proofs.Ytpfikmchimlneaa.Ar
