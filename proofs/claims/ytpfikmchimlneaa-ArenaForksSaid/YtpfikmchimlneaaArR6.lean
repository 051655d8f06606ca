/- The reference's arena: Take, of a place that was given back. -/
import Derived.Test.YtpfikmchimlneaaArR5
set_option linter.unusedVariables false
set_option linter.unusedSimpArgs false
namespace Go.Proofs.Ytpfikmchimlneaa.Ar
open Go.Proofs.YtpfikmchimlneaaW.Mine Go.RowKit Go.Proofs.YtpfikmchimlneaaW.PrintWords Go.Proofs.YtpfikmchimlneaaW.PrintWords.Kd Go.Proofs.YtpfikmchimlneaaW.PrintLast Go.Proofs.YtpfikmchimlneaaW.PrintMore Go.Proofs.YtpfikmchimlneaaW.Sl Go.Proofs.YtpfikmchimlneaaW.Ar
variable {B g : Nat} {W W' : World} {X : Array Value} {r : Rf}
set_option maxHeartbeats 8000000 in
set_option maxRecDepth 100000 in
theorem ref_take_old (w : World) (h : RV B w X r) (hBw : B ≤ w.heap.size) (x : Int) (hi : (rlen r : Int) < r.most) (l : List Int) (j : Nat) (hj : j < 64) (hbk : r.back = l ++ [(j : Int)]) (hl : l.length < 1000000) (ht0 : 0 ≤ r.top) (ht1 : r.top < 64) : Calls Try.prog 56 #[.agg X, .int .i64 x] w (told3 B w X (rold r l j x) (j : Int) 0) := by
  have HBK := Aside0.mk hbk
  have HBW := Aside0.mk hBw
  have HJ := Aside0.mk hj
  have HL := Aside0.mk hl
  have hj0 : (0 : Int) ≤ (j : Int) := by omega
  have hj1 : (j : Int) < 64 := by omega
  obtain ⟨i0, hi0, hsz0⟩ := Option.map_eq_some_iff.1 info3
  clear hbk hBw hsz0
  obtain ⟨W, hW, hh, hz, hb⟩ := ini w X
  have hld : ∀ W' : World, W'.heap[w.heap.size]? = some (.cells X 42 (0, 0)) → (Instr.loadAt 42 (.pointer (some ⟨w.heap.size, 0, none⟩))).run Try.prog W' = .ok (.agg X) W' := fun _ hg => loadAt42 h.sz hg
  have hc0 := (blk_cell hh 0).trans h.c0
  have HW := Aside0.mk hW
  have HH := Aside0.mk hh
  have HZ := Aside0.mk hz
  have HB := Aside0.mk hb
  have HR := Aside0.mk h
  clear hz hb h
  go_enter Try.func56, Try.ntmps56
  go_wp2_with fail
  clear hW
  have hdr : Below w.heap.size w W.drew := HB.out.drew
  have HBD := Aside0.mk hdr
  have hhd : W.drew.heap[w.heap.size]? = some (.cells X 42 (0, 0)) := hh
  have HHD := Aside0.mk hhd
  have HZD := Aside0.mk (show W.drew.heap[w.heap.size + 1]? = some (.cells Try.zeroCells42 42 (0, 0)) from HZ.out)
  refine start_ (n := 5) (S := fun w' => w'.heap[w.heap.size]? = some (.cells X 42 (0, 0))) (ds := []) #[false, false, false, false, false] (by kernel_rfl) rfl rfl hhd (fun hHeld => ?_)
  generalize W.drew = W1 at HBD HHD HZD hHeld ⊢
  clear hh hhd hdr hld hc0 hHeld
  refine take_ (i := 0) (N := some 9) (v := .agg X) (a' := ?_) #[true, false, false, false, false] rfl rfl (by kernel_rfl) (fun _ _ _ h => h) (Or.inl ⟨by rfl, fun w' hw' => ld42 rfl rfl HR.out.sz hw'⟩) HHD.out ?_ ?_
  rotate_left
  · simp only [pt_, pn_, sz_, ss_, i64_w, i32_w]; rfl
  refine pure_ (i := 2) (N := some 11) (v := ?_) (a' := ?_) #[true, false, true, false, false] rfl rfl (by kernel_rfl) (fun _ _ _ h => h) (Or.inl ⟨by rfl, ?_⟩) ?_ ?_
  rotate_left
  · intro w'
    (go_simp); (with_reducible rfl)
  rotate_left
  · simp only [pt_, pn_, sz_, ss_, i64_w, i32_w]; rfl
  refine take_ (i := 3) (N := some 12) (v := .int .i64 r.most) (a' := ?a3) #[true, false, true, true, false] rfl rfl (by kernel_rfl) (fun _ _ _ h => h) (Or.inl ⟨by rfl, fun w' hw' => ?y3⟩) HHD.out ?ha3 ?h3
  case y3 =>
    have hc := (blk_cell hw' 0).trans HR.out.c0
    (go_simp; first | done | with_reducible rfl)
  case ha3 => (simp only [pt_, pn_, sz_, ss_, i64_w, i32_w]; rfl)
  refine one_ (i := 1) (N := some 10) #[true, true, true, true, false] rfl rfl (by kernel_rfl) (by decide) (fun K hK => ?_)
  refine goes_ Try.func64 (by kernel_rfl) rfl #[.agg X] (by rfl) rfl rfl (by (try simp only [List.map_toArray, List.map_cons, List.map_nil]); first | done | rfl) ?_
  refine (ref_len _ (HR.out.keep HBD.out)).mono ?_
  rintro e w1 ⟨rfl, hb1⟩
  refine ⟨_, rfl, ?_⟩
  refine hK.out _ _ (blk_below HHD.out hb1) (fun hHeld => ?_)
  have HB1 := Aside0.mk (HBD.out.trans (hb1.mono HBD.out.size))
  have HH1 := Aside0.mk (blk_below HHD.out hb1)
  have HZ1 := Aside0.mk (blk_below HZD.out hb1)
  clear hK hHeld hb1
  refine norm_ (a' := ?_) ?_ ?_
  rotate_left
  · show Act.put _ (some 10) _ = _
    simp only [pt_, pn_, sz_, ss_, i64_w, i32_w]
    rfl
  refine pure_ (i := 4) (N := some 13) (v := ?_) (a' := ?_) #[true, true, true, true, true] rfl rfl (by kernel_rfl) (fun _ _ _ h => h) (Or.inl ⟨by rfl, ?_⟩) ?_ ?_
  rotate_left
  · intro w'
    (go_simp); (with_reducible rfl)
  rotate_left
  · simp only [pt_, pn_, sz_, ss_, i64_w, i32_w]; rfl
  refine done_ (by kernel_rfl) ?_
  obtain ⟨vb, hvb, hRb⟩ := (HR.out.keep HB1.out).bk
  rw [HBK.out] at hRb
  obtain ⟨Ab, cb, rfl⟩ := R_slice hRb
  rw [List.length_append, List.length_singleton] at hRb hvb
  obtain ⟨_, hlc, hCb⟩ := R_reads' hRb
  obtain ⟨ad, rfl, hcell⟩ := at_int hCb (l.length : Int) (by omega) (by simp; omega)
  have hrd : rd (l ++ [(j : Int)]) (l.length : Int) = (j : Int) := by simp [rd, List.getD_eq_getElem?_getD]
  rw [hrd, Int.toNat_natCast] at hcell
  have hct := cut_to (P := Try.prog) 40 3 .i64 Try.underlying40 hi0 (some ad) (l.length + 1) cb (l.length : Int) (by omega) (by omega) hlc
  rw [Int.toNat_natCast] at hct
  have hCt := C_take hCb l.length (by simp)
  rw [List.take_left' rfl] at hCt
  have HCT := Aside0.mk (C_below hCt ((Below.refl _ w1).alloc (Nat.le_refl _) (.cells #[] 3)))
  have c1 := (blk_cell HH1.out 1).trans HR.out.c1
  have c130 := (blk_cell HH1.out 130).trans hvb
  have f130 := blk_frozen HH1.out 130
  have hsz1 : w.heap.size + 2 ≤ w1.heap.size := by have := blk_lt HZ1.out; omega
  have HS1 := Aside0.mk hsz1
  have hnil := grown_nil (Kd.int .i64) (W := w1) 3 #[] 0 (by decide) rfl
  have HNIL := Aside0.mk (R_lower hnil hsz1)
  have HX2 := Aside0.mk (blk_alloc HH1.out (.cells #[] 3))
  have HZ2 := Aside0.mk (blk_alloc HZ1.out (.cells #[] 3))
  have HB2 := Aside0.mk (HB1.out.alloc HB1.out.size (.cells #[] 3))
  have hlc2 := hlc
  have d0 := (blk_cell HX2.out 130).trans hvb
  obtain ⟨nn, hnn⟩ : ∃ nn, l.length + 1 = nn := ⟨_, rfl⟩
  rw [hnn] at hct c130 d0 hlc2
  have hn1 : (l.length : Int) = (nn : Int) - 1 := by omega
  have hn8 : l.length = nn - 1 := by omega
  rw [hn1] at hct
  rw [hn8] at hcell
  have hn2 : 0 < nn := by omega
  have hn3 : (0 : Int) < (nn : Int) := by omega
  have hn4 : (1 : Int) ≤ (nn : Int) := by omega
  have hn5 : (nn : Int) - 1 < (nn : Int) := by omega
  have hn6 : nn < 1000001 := by omega
  clear hnn hn1 hn8
  clear hvb hRb hCb hrd hCt hnil hi0 hlc hsz1
  go_wp2_with (first
    | ((with_reducible refine gate_builtin (b := .append) (xs := #[.tmp 29, .tmp 34]) rfl ?_); at_builtin; refine Kd.R_append_rows (Kd.int .i64) (Rr := (Kd.int .i64).K w1) (w0 := _) (w.heap.size + 2) rfl (.tmp 29) (.tmp 34) 40 3 (.int .i64 0) 8 rfl Try.underlying40 info3 rfl (by decide) (by decide) (.slice (some ⟨w1.heap.size, 0, none⟩) 0 0) [] l (some ad) l.length cb (fun _ => True) (fun _ => False) rfl rfl HNIL.out HCT.out (fun _ _ h => h) (fun _ h => h.elim) (fun _ _ => trivial) (Below.refl _ _) (by have := HS1.out; simp; omega) (by have := HL.out; simp; omega) ?_; intro v1 w2 hR1 hB1 hG1 hat; rw [List.nil_append] at hR1; obtain ⟨A2, c2, rfl⟩ := R_slice hR1; have HAT := Aside0.mk hat; have HR1 := Aside0.mk hR1; have HG1 := Aside0.mk hG1; have HX3 := Aside0.mk (blk_grown HX2.out hG1 (by have := HS1.out; simp [Value.ownBlock]; omega)); have HZ3 := Aside0.mk (blk_grown HZ2.out hG1 (by have := HS1.out; simp [Value.ownBlock]; omega));
        have HRS := Aside0.mk (HR.out.setBack (R_lower hR1 (Nat.le_trans HBW.out (Nat.le_add_right _ 2))));
        have HRT := Aside0.mk (HRS.out.setTk j HJ.out true);
        have HRU := Aside0.mk (HRT.out.setVl j HJ.out x);
        obtain ⟨vb2, hvb2, hRb2⟩ := HR.out.bk; obtain ⟨Ab2, cb2, rfl⟩ := R_slice hRb2;
        have d130 := (blk_cell HX3.out 130).trans hvb2; have g130 := blk_frozen HX3.out 130;
        have HX4 := Aside0.mk (blk_set HX3.out 130 (.slice A2 l.length c2));
        have e2 := (blk_cell HX4.out (2 + j)).trans (HRS.out.tk j HJ.out); have g2 := blk_frozen HX4.out (2 + j);
        have HX5 := Aside0.mk (blk_set HX4.out (2 + j) (.bool true));
        have e3 := (blk_cell HX5.out (66 + j)).trans (HRT.out.vl j HJ.out); have g3 := blk_frozen HX5.out (66 + j);
        have HX6 := Aside0.mk (blk_set HX5.out (66 + j) (.int .i64 x));
        have HZ6 := Aside0.mk (blk_far (blk_far (blk_far HZ3.out (p := ⟨w.heap.size, 130, none⟩) (by simp) (.slice A2 l.length c2)) (p := ⟨w.heap.size, 2 + j, none⟩) (by simp) (.bool true)) (p := ⟨w.heap.size, 66 + j, none⟩) (by simp) (.int .i64 x));
        clear hR1 hB1 hG1 hat hvb2 hRb2)
    | (refine wpList_load_row rfl 42 (.tmp 2) rfl w.heap.size rfl 42 _ (0, 0) _ HX6.out Try.underlying42 rfl (by rw [HRU.out.sz]; exact info42) ?_)
    | (refine wpList_store_row rfl 42 (.tmp 4) (.tmp 46) rfl (w.heap.size + 1) (((X.setIfInBounds 130 (.slice A2 l.length c2)).setIfInBounds (2 + j) (.bool true)).setIfInBounds (66 + j) (.int .i64 x)) rfl rfl 42 Try.zeroCells42 HZ6.out (by rw [HRU.out.sz]; exact info42) (by rw [HRU.out.sz]; exact zero42) HRU.out.one ?_)
    | fail)
  have hz7 := setRow_heap _ (w.heap.size + 1) Try.zeroCells42 (((X.setIfInBounds 130 (.slice A2 l.length c2)).setIfInBounds (2 + j) (.bool true)).setIfInBounds (66 + j) (.int .i64 x)) 42 (0, 0) HZ6.out
  refine bodyPost_ret (results_42b rfl rfl rfl rfl HRU.out.sz hz7) rfl ?_
  have h42 : ∀ q, q ∈ 3 :: (Kd.int .i64).E → q ≠ 42 := by intro q hq; simp [Kd.int, Kd.scalar] at hq; omega
  have hb3 : Below w.heap.size w w2 := HB2.out.grown HG1.out HB2.out.size (fun k e => by have := HS1.out; simp [Value.ownBlock] at e; omega)
  have hb6 := ((hb3.setCell (p := ⟨w.heap.size, 130, none⟩) (Nat.le_refl _) (.slice A2 l.length c2)).setCell (p := ⟨w.heap.size, 2 + j, none⟩) (Nat.le_refl _) (.bool true)).setCell (p := ⟨w.heap.size, 66 + j, none⟩) (Nat.le_refl _) (.int .i64 x)
  have hb9 := hb6.grown (setRow_grown _ (w.heap.size + 1) (((X.setIfInBounds 130 (.slice A2 l.length c2)).setIfInBounds (2 + j) (.bool true)).setIfInBounds (66 + j) (.int .i64 x))) hb6.size (fun k e => by injection e with e; omega)
  have hown : Same w (bkv X) (bkv (((X.setIfInBounds 130 (.slice A2 l.length c2)).setIfInBounds (2 + j) (.bool true)).setIfInBounds (66 + j) (.int .i64 x))) := by
    rw [bkv_set _ _ (by omega), bkv_set _ _ (by omega), bkv_put X HR.out.sz]
    have hw1 := HB1.out.size
    rcases HAT.out with he | ⟨b, he, hb⟩
    · exact .inr ⟨w1.heap.size, he, hw1⟩
    · exact .inr ⟨b, he, Nat.le_trans hw1 (Nat.le_trans (by simp) hb)⟩
  refine ⟨_, rfl, ?_, hb9, hown⟩
  have h7 := R_set (R_set (R_set HR1.out HX3.out h42 130 (.slice A2 l.length c2)) HX4.out h42 (2 + j) (.bool true)) HX5.out h42 (66 + j) (.int .i64 x)
  have h8 := R_grown (R_types h7 HZ6.out h42) (setRow_grown _ (w.heap.size + 1) (((X.setIfInBounds 130 (.slice A2 l.length c2)).setIfInBounds (2 + j) (.bool true)).setIfInBounds (66 + j) (.int .i64 x))) (fun k hk e => hk.2 (by injection e))
  have h9 := (((HR.out.keep hb9).setBack (R_lower (R_mono h8 (fun _ _ => trivial)) (Nat.le_trans HBW.out (Nat.le_add_right _ 2)))).setTk j HJ.out true).setVl j HJ.out x
  simpa [rold] using h9
end Go.Proofs.Ytpfikmchimlneaa.Ar
