/- The reference's arena: Take, where there is room. -/
import Derived.Test.YtpfikmchimlneaaArR4
set_option linter.unusedVariables false
set_option linter.unusedSimpArgs false
namespace Go.Proofs.Ytpfikmchimlneaa.Ar
open Go.Proofs.YtpfikmchimlneaaW.Mine Go.RowKit Go.Proofs.YtpfikmchimlneaaW.PrintWords Go.Proofs.YtpfikmchimlneaaW.PrintWords.Kd Go.Proofs.YtpfikmchimlneaaW.PrintLast Go.Proofs.YtpfikmchimlneaaW.PrintMore Go.Proofs.YtpfikmchimlneaaW.Sl Go.Proofs.YtpfikmchimlneaaW.Ar
variable {B g : Nat} {W W' : World} {X : Array Value} {r : Rf}
def rnew (r : Rf) (i : Nat) (x : Int) : Rf := { r with top := (i : Int), tk := r.tk.set i true, vl := r.vl.set i x }
def rold (r : Rf) (l : List Int) (i : Nat) (x : Int) : Rf := { r with back := l, tk := r.tk.set i true, vl := r.vl.set i x }
set_option maxHeartbeats 8000000 in
set_option maxRecDepth 100000 in
theorem ref_take_new (w : World) (h : RV B w X r) (x : Int) (hi : (rlen r : Int) < r.most) (hbk : r.back = []) (t : Nat) (ht : r.top = (t : Int)) (ht2 : t + 1 < 64) : Calls Try.prog 56 #[.agg X, .int .i64 x] w (told3 B w X (rnew r (t + 1) x) ((t : Int) + 1) 0) := by
  obtain ⟨W, hW, hh, hz, hb⟩ := ini w X
  have hld : ∀ W' : World, W'.heap[w.heap.size]? = some (.cells X 42 (0, 0)) → (Instr.loadAt 42 (.pointer (some ⟨w.heap.size, 0, none⟩))).run Try.prog W' = .ok (.agg X) W' := fun _ hg => loadAt42 h.sz hg
  have hc0 := (blk_cell hh 0).trans h.c0
  have HW := Aside0.mk hW
  have HH := Aside0.mk hh
  have HZ := Aside0.mk hz
  have HB := Aside0.mk hb
  have HR := Aside0.mk h
  clear hz hb h
  go_enter Try.func56, Try.ntmps56
  go_wp2_with fail
  clear hW
  have hdr : Below w.heap.size w W.drew := HB.out.drew
  have HBD := Aside0.mk hdr
  have hhd : W.drew.heap[w.heap.size]? = some (.cells X 42 (0, 0)) := hh
  have HHD := Aside0.mk hhd
  have HZD := Aside0.mk (show W.drew.heap[w.heap.size + 1]? = some (.cells Try.zeroCells42 42 (0, 0)) from HZ.out)
  refine start_ (n := 5) (S := fun w' => w'.heap[w.heap.size]? = some (.cells X 42 (0, 0))) (ds := []) #[false, false, false, false, false] (by kernel_rfl) rfl rfl hhd (fun hHeld => ?_)
  generalize W.drew = W1 at HBD HHD HZD hHeld ⊢
  clear hh hhd hdr hld hc0 hHeld
  refine take_ (i := 0) (N := some 9) (v := .agg X) (a' := ?_) #[true, false, false, false, false] rfl rfl (by kernel_rfl) (fun _ _ _ h => h) (Or.inl ⟨by rfl, fun w' hw' => ld42 rfl rfl HR.out.sz hw'⟩) HHD.out ?_ ?_
  rotate_left
  · simp only [pt_, pn_, sz_, ss_, i64_w, i32_w]; rfl
  refine pure_ (i := 2) (N := some 11) (v := ?_) (a' := ?_) #[true, false, true, false, false] rfl rfl (by kernel_rfl) (fun _ _ _ h => h) (Or.inl ⟨by rfl, ?_⟩) ?_ ?_
  rotate_left
  · intro w'
    (go_simp); (with_reducible rfl)
  rotate_left
  · simp only [pt_, pn_, sz_, ss_, i64_w, i32_w]; rfl
  refine take_ (i := 3) (N := some 12) (v := .int .i64 r.most) (a' := ?a3) #[true, false, true, true, false] rfl rfl (by kernel_rfl) (fun _ _ _ h => h) (Or.inl ⟨by rfl, fun w' hw' => ?y3⟩) HHD.out ?ha3 ?h3
  case y3 =>
    have hc := (blk_cell hw' 0).trans HR.out.c0
    (go_simp; first | done | with_reducible rfl)
  case ha3 => (simp only [pt_, pn_, sz_, ss_, i64_w, i32_w]; rfl)
  refine one_ (i := 1) (N := some 10) #[true, true, true, true, false] rfl rfl (by kernel_rfl) (by decide) (fun K hK => ?_)
  refine goes_ Try.func64 (by kernel_rfl) rfl #[.agg X] (by rfl) rfl rfl (by (try simp only [List.map_toArray, List.map_cons, List.map_nil]); first | done | rfl) ?_
  refine (ref_len _ (HR.out.keep HBD.out)).mono ?_
  rintro e w1 ⟨rfl, hb1⟩
  refine ⟨_, rfl, ?_⟩
  refine hK.out _ _ (blk_below HHD.out hb1) (fun hHeld => ?_)
  have HB1 := Aside0.mk (HBD.out.trans (hb1.mono HBD.out.size))
  have HH1 := Aside0.mk (blk_below HHD.out hb1)
  have HZ1 := Aside0.mk (blk_below HZD.out hb1)
  clear hK hHeld hb1
  refine norm_ (a' := ?_) ?_ ?_
  rotate_left
  · show Act.put _ (some 10) _ = _
    simp only [pt_, pn_, sz_, ss_, i64_w, i32_w]
    rfl
  refine pure_ (i := 4) (N := some 13) (v := ?_) (a' := ?_) #[true, true, true, true, true] rfl rfl (by kernel_rfl) (fun _ _ _ h => h) (Or.inl ⟨by rfl, ?_⟩) ?_ ?_
  rotate_left
  · intro w'
    (go_simp); (with_reducible rfl)
  rotate_left
  · simp only [pt_, pn_, sz_, ss_, i64_w, i32_w]; rfl
  refine done_ (by kernel_rfl) ?_
  have hX1 := HR.out.c1
  rw [ht] at hX1
  obtain ⟨vb, hvb, hRb⟩ := HR.out.bk
  rw [hbk] at hRb
  obtain ⟨Ab, cb, rfl⟩ := R_slice hRb
  have HRS := Aside0.mk (HR.out.setTop ((t : Int) + 1))
  have HRT := Aside0.mk (HRS.out.setTk (t + 1) ht2 true)
  have HRU := Aside0.mk (HRT.out.setVl (t + 1) ht2 x)
  have c1 := (blk_cell HH1.out 1).trans hX1
  have c130 := (blk_cell HH1.out 130).trans hvb
  have f1 := blk_frozen HH1.out 1
  have HX2 := Aside0.mk (blk_set HH1.out 1 (.int .i64 ((t : Int) + 1)))
  have c2 := (blk_cell HX2.out (2 + (t + 1))).trans (HRS.out.tk (t + 1) ht2)
  have f2 := blk_frozen HX2.out (2 + (t + 1))
  have HX3 := Aside0.mk (blk_set HX2.out (2 + (t + 1)) (.bool true))
  have c3 := (blk_cell HX3.out (66 + (t + 1))).trans (HRT.out.vl (t + 1) ht2)
  have f3 := blk_frozen HX3.out (66 + (t + 1))
  have HX4 := Aside0.mk (blk_set HX3.out (66 + (t + 1)) (.int .i64 x))
  clear hX1 hvb hRb hbk
  have HT := Aside0.mk ht
  clear ht
  have HZ4 := Aside0.mk (blk_far (blk_far (blk_far HZ1.out (p := ⟨w.heap.size, 1, none⟩) (by simp) (.int .i64 ((t : Int) + 1))) (p := ⟨w.heap.size, 2 + (t + 1), none⟩) (by simp) (.bool true)) (p := ⟨w.heap.size, 66 + (t + 1), none⟩) (by simp) (.int .i64 x))
  go_wp2_with (first
    | (refine wpList_load_row rfl 42 (.tmp 2) rfl w.heap.size rfl 42 _ (0, 0) _ HX4.out Try.underlying42 rfl (by rw [HRU.out.sz]; exact info42) ?_)
    | (refine wpList_store_row rfl 42 (.tmp 4) (.tmp 46) rfl (w.heap.size + 1) (((X.setIfInBounds 1 (.int .i64 ((t : Int) + 1))).setIfInBounds (2 + (t + 1)) (.bool true)).setIfInBounds (66 + (t + 1)) (.int .i64 x)) rfl rfl 42 Try.zeroCells42 HZ4.out (by rw [HRU.out.sz]; exact info42) (by rw [HRU.out.sz]; exact zero42) HRU.out.one ?_)
    | fail)
  have hz2 := setRow_heap _ (w.heap.size + 1) Try.zeroCells42 (((X.setIfInBounds 1 (.int .i64 ((t : Int) + 1))).setIfInBounds (2 + (t + 1)) (.bool true)).setIfInBounds (66 + (t + 1)) (.int .i64 x)) 42 (0, 0) HZ4.out
  refine bodyPost_ret (results_42b rfl rfl rfl rfl HRU.out.sz hz2) rfl ?_
  have hb4 := ((HB1.out.setCell (p := ⟨w.heap.size, 1, none⟩) (Nat.le_refl _) (.int .i64 ((t : Int) + 1))).setCell (p := ⟨w.heap.size, 2 + (t + 1), none⟩) (Nat.le_refl _) (.bool true)).setCell (p := ⟨w.heap.size, 66 + (t + 1), none⟩) (Nat.le_refl _) (.int .i64 x)
  have hb9 := hb4.grown (setRow_grown _ (w.heap.size + 1) (((X.setIfInBounds 1 (.int .i64 ((t : Int) + 1))).setIfInBounds (2 + (t + 1)) (.bool true)).setIfInBounds (66 + (t + 1)) (.int .i64 x))) hb4.size (fun k e => by injection e with e; omega)
  refine ⟨_, rfl, ?_, hb9, .inl (by rw [bkv_set _ _ (by omega), bkv_set _ _ (by omega), bkv_set _ _ (by omega)])⟩
  have h9 := HRU.out.keep hb9
  simpa [rnew] using h9
end Go.Proofs.Ytpfikmchimlneaa.Ar
