/- The reference's arena: Set, Give. -/
import Derived.Test.YtpfikmchimlneaaArR
set_option linter.unusedVariables false
set_option linter.unusedSimpArgs false
namespace Go.Proofs.Ytpfikmchimlneaa.Ar
open Go.RowKit Go.Proofs.YtpfikmchimlneaaW.PrintWords Go.Proofs.YtpfikmchimlneaaW.PrintWords.Kd Go.Proofs.YtpfikmchimlneaaW.PrintLast Go.Proofs.YtpfikmchimlneaaW.PrintMore Go.Proofs.YtpfikmchimlneaaW.Sl Go.Proofs.YtpfikmchimlneaaW.Ar
variable {B g : Nat} {W W' : World} {X : Array Value} {r : Rf}
/-- the struct and a number are told -/
def told2 (B : Nat) (w : World) (r' : Rf) (c : Int) (e : Ending) (w' : World) : Prop := ∃ X', e = .returned (.tuple #[.agg X', .int .i64 c]) ∧ RV B w' X' r' ∧ Below w.heap.size w w'
theorem setRow_grown (W : World) (g : Nat) (X : Array Value) : W.grownBy (W.setRow g X) (some g) := ⟨rfl, rfl, rfl, by simp [World.setRow], fun k hk hne => setRow_other W g k _ (fun h => hne (by rw [h]))⟩
/-- a block that is known holds a struct: it is loaded -/
theorem load42 {cs : Array Value} (hs : cs.size = 131) (hg : W.heap[g]? = some (.cells cs 42 (0, 0))) : (loadVar 42 ⟨g, 0, none⟩).run Try.prog W = .ok (.agg cs) W :=
  run_loadVar_row W g 42 42 cs (0, 0) _ hg Try.underlying42 rfl (by rw [hs]; exact info42)
theorem results_42a {fn : Func} {p q : Tmp} (h : fn.results = #[.cell p 42, .tmp q]) {tmps : Array Value} {cs : Array Value} {x : Value} (hp : tmps.getD p undef = .pointer (some ⟨g, 0, none⟩)) (hq : tmps.getD q undef = x) (hs : cs.size = 131) (hg : W.heap[g]? = some (.cells cs 42 (0, 0))) :
    (results fn tmps).run Try.prog W = .ok (.tuple #[.agg cs, x]) W := by
  have hl := load42 hs hg
  have hp' : tmps[p]?.getD undef = .pointer (some ⟨g, 0, none⟩) := by simpa using hp
  have hq' : tmps[q]?.getD undef = x := by simpa using hq
  simp [results, h, hp', hq', asAddr, hl]
theorem results_42b {fn : Func} {p q u : Tmp} (h : fn.results = #[.cell p 42, .tmp q, .tmp u]) {tmps : Array Value} {cs : Array Value} {x y : Value} (hp : tmps.getD p undef = .pointer (some ⟨g, 0, none⟩)) (hq : tmps.getD q undef = x) (hu : tmps.getD u undef = y) (hs : cs.size = 131) (hg : W.heap[g]? = some (.cells cs 42 (0, 0))) :
    (results fn tmps).run Try.prog W = .ok (.tuple #[.agg cs, x, y]) W := by
  have hl := load42 hs hg
  have hp' : tmps[p]?.getD undef = .pointer (some ⟨g, 0, none⟩) := by simpa using hp
  have hq' : tmps[q]?.getD undef = x := by simpa using hq
  have hu' : tmps[u]?.getD undef = y := by simpa using hu
  simp [results, h, hp', hq', hu', asAddr, hl]
def rset (r : Rf) (i x : Int) : Rf := { r with vl := r.vl.set i.toNat x }
set_option maxHeartbeats 4000000 in
set_option maxRecDepth 100000 in
theorem ref_set_no (w : World) (h : RV B w X r) (i x : Int) (hi : rhas r i = false) : Calls Try.prog 61 #[.agg X, .int .i64 i, .int .i64 x] w (told2 B w r 14) := by
  have hh : ((w.alloc (.cells X 42)).alloc (.cells Try.zeroCells42 42)).heap[w.heap.size]? = some (.cells X 42 (0, 0)) := blk_alloc (heap_alloc_new w (.cells X 42)) _
  have hz : ((w.alloc (.cells X 42)).alloc (.cells Try.zeroCells42 42)).heap[w.heap.size + 1]? = some (.cells Try.zeroCells42 42 (0, 0)) := by
    have := heap_alloc_new (w.alloc (.cells X 42)) (.cells Try.zeroCells42 42)
    simpa using this
  have hb : Below w.heap.size w ((w.alloc (.cells X 42)).alloc (.cells Try.zeroCells42 42)) := ((Below.refl w.heap.size w).alloc (Nat.le_refl _) _).alloc (by simp) _
  obtain ⟨W, hW⟩ : ∃ W, (w.alloc (.cells X 42)).alloc (.cells Try.zeroCells42 42) = W := ⟨_, rfl⟩
  have HW := Aside0.mk hW
  rw [hW] at hh hz hb
  have HH := Aside0.mk hh
  have HZ := Aside0.mk hz
  have HB := Aside0.mk hb
  have HR := Aside0.mk h
  have HI := Aside0.mk hi
  clear hh hz hb h hi hW
  go_enter Try.func61, Try.ntmps61
  go_wp2_with (first
    | (refine wpList_load_row rfl 42 (.tmp 3) rfl w.heap.size rfl 42 X (0, 0) _ (HW.out ▸ HH.out) Try.underlying42 rfl (by rw [HR.out.sz]; exact info42) ?_; rw [HW.out])
    | (go_at_call 63; refine (HR.out.keep HB.out |> fun hr => ref_there W hr i).mono ?_; rintro e w1 ⟨rfl, hb⟩; have HB1 := Aside0.mk hb; rw [HI.out]; have HH1 := Aside0.mk (blk_below HH.out hb); have HZ1 := Aside0.mk (blk_below HZ.out hb); clear hb)
    | (refine wpList_load_row rfl 42 (.tmp 3) rfl w.heap.size rfl 42 X (0, 0) _ HH1.out Try.underlying42 rfl (by rw [HR.out.sz]; exact info42) ?_)
    | (refine wpList_store_row rfl 42 (.tmp 6) (.tmp 12) rfl (w.heap.size + 1) X rfl rfl 42 Try.zeroCells42 HZ1.out (by rw [HR.out.sz]; exact info42) (by rw [HR.out.sz]; exact zero42) HR.out.one ?_))
  have hz2 := setRow_heap w1 (w.heap.size + 1) Try.zeroCells42 X 42 (0, 0) HZ1.out
  refine bodyPost_ret (results_42a rfl rfl rfl HR.out.sz hz2) rfl ?_
  have hb9 : Below w.heap.size w (w1.setRow (w.heap.size + 1) X) := (HB.out.trans (HB1.out.mono HB.out.size)).grown (setRow_grown w1 _ X) (Nat.le_trans HB.out.size HB1.out.size) (fun k e => by injection e with e; omega)
  exact ⟨X, rfl, HR.out.keep hb9, hb9⟩
theorem rhas_yes {i : Int} (h : rhas r i = true) : ∃ j : Nat, i = (j : Int) ∧ 1 ≤ j ∧ j < 64 ∧ r.tk.getD j false = true := by
  unfold rhas at h
  simp only [Bool.and_eq_true, decide_eq_true_eq] at h
  obtain ⟨⟨h1, h2⟩, h3⟩ := h
  exact ⟨i.toNat, by omega, by omega, by omega, h3⟩
/-- the two blocks with which a function of the reference begins -/
theorem ini (w : World) (X : Array Value) : ∃ W, (w.alloc (.cells X 42)).alloc (.cells Try.zeroCells42 42) = W ∧ W.heap[w.heap.size]? = some (.cells X 42 (0, 0)) ∧ W.heap[w.heap.size + 1]? = some (.cells Try.zeroCells42 42 (0, 0)) ∧ Below w.heap.size w W :=
  ⟨_, rfl, blk_alloc (heap_alloc_new w (.cells X 42)) _, by have := heap_alloc_new (w.alloc (.cells X 42)) (.cells Try.zeroCells42 42); simpa using this, ((Below.refl w.heap.size w).alloc (Nat.le_refl _) _).alloc (by simp) _⟩
set_option maxHeartbeats 4000000 in
set_option maxRecDepth 100000 in
theorem ref_set_yes (w : World) (h : RV B w X r) (i x : Int) (hi : rhas r i = true) : Calls Try.prog 61 #[.agg X, .int .i64 i, .int .i64 x] w (told2 B w (rset r i x) 0) := by
  obtain ⟨W, hW, hh, hz, hb⟩ := ini w X
  obtain ⟨j, rfl, hj1, hj, _⟩ := rhas_yes hi
  have HW := Aside0.mk hW
  have HH := Aside0.mk hh
  have HZ := Aside0.mk hz
  have HB := Aside0.mk hb
  have HR := Aside0.mk h
  have HI := Aside0.mk hi
  clear hh hz hb h hi hW
  go_enter Try.func61, Try.ntmps61
  go_wp2_with (first
    | (refine wpList_load_row rfl 42 (.tmp 3) rfl w.heap.size rfl 42 X (0, 0) _ (HW.out ▸ HH.out) Try.underlying42 rfl (by rw [HR.out.sz]; exact info42) ?_; rw [HW.out])
    | (go_at_call 63; refine (HR.out.keep HB.out |> fun hr => ref_there W hr (j : Int)).mono ?_; rintro e w1 ⟨rfl, hb⟩; have HB1 := Aside0.mk hb; rw [HI.out]; have HH1 := Aside0.mk (blk_below HH.out hb); have HZ1 := Aside0.mk (blk_below HZ.out hb); clear hb; have hc := (blk_cell HH1.out (66 + j)).trans (HR.out.vl j hj); have hf := blk_frozen HH1.out (66 + j); have HH2 := Aside0.mk (blk_set HH1.out (66 + j) (.int .i64 x)); have HZ2 := Aside0.mk (blk_far HZ1.out (p := ⟨w.heap.size, 66 + j, none⟩) (by simp) (.int .i64 x)))
    | (refine wpList_load_row rfl 42 (.tmp 3) rfl w.heap.size rfl 42 (X.setIfInBounds (66 + j) (.int .i64 x)) (0, 0) _ HH2.out Try.underlying42 rfl (by rw [(HR.out.setVl j hj x).sz]; exact info42) ?_)
    | (refine wpList_store_row rfl 42 (.tmp 6) (.tmp 17) rfl (w.heap.size + 1) (X.setIfInBounds (66 + j) (.int .i64 x)) rfl rfl 42 Try.zeroCells42 HZ2.out (by rw [(HR.out.setVl j hj x).sz]; exact info42) (by rw [(HR.out.setVl j hj x).sz]; exact zero42) (HR.out.setVl j hj x).one ?_))
  have hz2 := setRow_heap _ (w.heap.size + 1) Try.zeroCells42 (X.setIfInBounds (66 + j) (.int .i64 x)) 42 (0, 0) HZ2.out
  refine bodyPost_ret (results_42a rfl rfl rfl (HR.out.setVl j hj x).sz hz2) rfl ?_
  have hs1 := Nat.le_trans HB.out.size HB1.out.size
  have hb9 : Below w.heap.size w ((w1.setCell ⟨w.heap.size, 66 + j, none⟩ (.int .i64 x)).setRow (w.heap.size + 1) (X.setIfInBounds (66 + j) (.int .i64 x))) := ((HB.out.trans (HB1.out.mono HB.out.size)).setCell (p := ⟨w.heap.size, 66 + j, none⟩) (Nat.le_refl _) _).grown (setRow_grown _ _ _) (by simpa using hs1) (fun k e => by injection e with e; omega)
  refine ⟨_, rfl, ?_, hb9⟩
  have := (HR.out.keep hb9).setVl j hj x
  simpa [rset] using this
def rgive (r : Rf) (i : Int) : Rf := { r with tk := r.tk.set i.toNat false, vl := r.vl.set i.toNat 0, back := r.back ++ [i] }
set_option maxHeartbeats 4000000 in
set_option maxRecDepth 100000 in
theorem ref_give_no (w : World) (h : RV B w X r) (i : Int) (hi : rhas r i = false) : Calls Try.prog 60 #[.agg X, .int .i64 i] w (told2 B w r 14) := by
  obtain ⟨W, hW, hh, hz, hb⟩ := ini w X
  have HW := Aside0.mk hW
  have HH := Aside0.mk hh
  have HZ := Aside0.mk hz
  have HB := Aside0.mk hb
  have HR := Aside0.mk h
  have HI := Aside0.mk hi
  clear hh hz hb h hi hW
  go_enter Try.func60, Try.ntmps60
  go_wp2_with (first
    | (refine wpList_load_row rfl 42 (.tmp 2) rfl w.heap.size rfl 42 X (0, 0) _ (HW.out ▸ HH.out) Try.underlying42 rfl (by rw [HR.out.sz]; exact info42) ?_; rw [HW.out])
    | (go_at_call 63; refine (HR.out.keep HB.out |> fun hr => ref_there W hr i).mono ?_; rintro e w1 ⟨rfl, hb⟩; have HB1 := Aside0.mk hb; rw [HI.out]; have HH1 := Aside0.mk (blk_below HH.out hb); have HZ1 := Aside0.mk (blk_below HZ.out hb); clear hb)
    | (refine wpList_load_row rfl 42 (.tmp 2) rfl w.heap.size rfl 42 X (0, 0) _ HH1.out Try.underlying42 rfl (by rw [HR.out.sz]; exact info42) ?_)
    | (refine wpList_store_row rfl 42 (.tmp 4) (.tmp 10) rfl (w.heap.size + 1) X rfl rfl 42 Try.zeroCells42 HZ1.out (by rw [HR.out.sz]; exact info42) (by rw [HR.out.sz]; exact zero42) HR.out.one ?_))
  have hz2 := setRow_heap w1 (w.heap.size + 1) Try.zeroCells42 X 42 (0, 0) HZ1.out
  refine bodyPost_ret (results_42a rfl rfl rfl HR.out.sz hz2) rfl ?_
  have hb9 : Below w.heap.size w (w1.setRow (w.heap.size + 1) X) := (HB.out.trans (HB1.out.mono HB.out.size)).grown (setRow_grown w1 _ X) (Nat.le_trans HB.out.size HB1.out.size) (fun k e => by injection e with e; omega)
  exact ⟨X, rfl, HR.out.keep hb9, hb9⟩
end Go.Proofs.Ytpfikmchimlneaa.Ar
