/- The reference's arena: Take. -/
import Derived.Test.YtpfikmchimlneaaArR3
set_option linter.unusedVariables false
set_option linter.unusedSimpArgs false
namespace Go.Proofs.Ytpfikmchimlneaa.Ar
open Go.Proofs.YtpfikmchimlneaaW.Mine Go.RowKit Go.Proofs.YtpfikmchimlneaaW.PrintWords Go.Proofs.YtpfikmchimlneaaW.PrintWords.Kd Go.Proofs.YtpfikmchimlneaaW.PrintLast Go.Proofs.YtpfikmchimlneaaW.PrintMore Go.Proofs.YtpfikmchimlneaaW.Sl Go.Proofs.YtpfikmchimlneaaW.Ar
variable {B g : Nat} {W W' : World} {X : Array Value} {r : Rf}
def bkv (X : Array Value) : Value := X.getD 130 undef
def told3 (B : Nat) (w : World) (X : Array Value) (r' : Rf) (x c : Int) (e : Ending) (w' : World) : Prop := ∃ X', e = .returned (.tuple #[.agg X', .int .i64 x, .int .i64 c]) ∧ RV B w' X' r' ∧ Below w.heap.size w w' ∧ Same w (bkv X) (bkv X')
theorem bkv_set (X : Array Value) (i : Nat) (hi : i ≠ 130) (u : Value) : bkv (X.setIfInBounds i u) = bkv X := by
  unfold bkv
  rw [Array.getD_eq_getD_getElem?, Array.getD_eq_getD_getElem?, Array.getElem?_setIfInBounds, if_neg hi]
theorem bkv_put (X : Array Value) (h : X.size = 131) (u : Value) : bkv (X.setIfInBounds 130 u) = u := by
  unfold bkv
  rw [Array.getD_eq_getD_getElem?, Array.getElem?_setIfInBounds, if_pos rfl, if_pos (by omega)]
  rfl
theorem bkv_of {v : Value} (h : X[130]? = some v) : bkv X = v := by
  unfold bkv
  rw [Array.getD_eq_getD_getElem?, h]
  rfl
theorem RV.grownRow (h : RV B W X r) {row : Option Nat} (hg : W.grownBy W' row) (hne : ∀ k, (bkv X).ownBlock = some k → some k ≠ row) : RV B W' X r :=
  ⟨h.sz, h.one, h.c0, h.c1, h.tk, h.vl, by obtain ⟨v, h1, h2⟩ := h.bk; rw [bkv_of h1] at hne; exact ⟨v, h1, R_mono (R_grown (R_tight (flat_int _) h2) hg hne) (fun _ _ => trivial)⟩, h.lt, h.lv⟩
theorem loadAt42 {cs : Array Value} (hs : cs.size = 131) (hg : W.heap[g]? = some (.cells cs 42 (0, 0))) : (Instr.loadAt 42 (.pointer (some ⟨g, 0, none⟩))).run Try.prog W = .ok (.agg cs) W := by
  simp only [Instr.loadAt, Instr.sureAddr, Sem.run_bind, Sem.run_pure, Result.andThen_ok, load42 hs hg]
theorem ld42 {o : Oper} {a : Act} {p : Tmp} {cs : Array Value} (ho : o.op = .load 42 (.tmp p)) (hp : a.eval (.tmp p) = .pointer (some ⟨g, 0, none⟩)) (hs : cs.size = 131) (hg : W.heap[g]? = some (.cells cs 42 (0, 0))) : (execOp a.eval o).run Try.prog W = .ok (.value (.agg cs)) W := by
  unfold execOp
  simp only [ho, hp, Instr.loadAt, Instr.sureAddr, Sem.run_bind, Sem.run_pure, Result.andThen_ok, load42 hs hg]
set_option maxHeartbeats 8000000 in
set_option maxRecDepth 100000 in
theorem ref_take_full (w : World) (h : RV B w X r) (x : Int) (hi : r.most ≤ (rlen r : Int)) : Calls Try.prog 56 #[.agg X, .int .i64 x] w (told3 B w X r 0 9) := by
  obtain ⟨W, hW, hh, hz, hb⟩ := ini w X
  have hld : ∀ W' : World, W'.heap[w.heap.size]? = some (.cells X 42 (0, 0)) → (Instr.loadAt 42 (.pointer (some ⟨w.heap.size, 0, none⟩))).run Try.prog W' = .ok (.agg X) W' := fun _ hg => loadAt42 h.sz hg
  have hc0 := (blk_cell hh 0).trans h.c0
  have HW := Aside0.mk hW
  have HH := Aside0.mk hh
  have HZ := Aside0.mk hz
  have HB := Aside0.mk hb
  have HR := Aside0.mk h
  clear hz hb h
  go_enter Try.func56, Try.ntmps56
  go_wp2_with fail
  clear hW
  have hdr : Below w.heap.size w W.drew := HB.out.drew
  have HBD := Aside0.mk hdr
  have hhd : W.drew.heap[w.heap.size]? = some (.cells X 42 (0, 0)) := hh
  have HHD := Aside0.mk hhd
  have HZD := Aside0.mk (show W.drew.heap[w.heap.size + 1]? = some (.cells Try.zeroCells42 42 (0, 0)) from HZ.out)
  refine start_ (n := 5) (S := fun w' => w'.heap[w.heap.size]? = some (.cells X 42 (0, 0))) (ds := []) #[false, false, false, false, false] (by kernel_rfl) rfl rfl hhd (fun hHeld => ?_)
  generalize W.drew = W1 at HBD HHD HZD hHeld ⊢
  clear hh hhd hdr hld hc0 hHeld
  refine take_ (i := 0) (N := some 9) (v := .agg X) (a' := ?_) #[true, false, false, false, false] rfl rfl (by kernel_rfl) (fun _ _ _ h => h) (Or.inl ⟨by rfl, fun w' hw' => ld42 rfl rfl HR.out.sz hw'⟩) HHD.out ?_ ?_
  rotate_left
  · simp only [pt_, pn_, sz_, ss_, i64_w, i32_w]; rfl
  refine pure_ (i := 2) (N := some 11) (v := ?_) (a' := ?_) #[true, false, true, false, false] rfl rfl (by kernel_rfl) (fun _ _ _ h => h) (Or.inl ⟨by rfl, ?_⟩) ?_ ?_
  rotate_left
  · intro w'
    (go_simp); (with_reducible rfl)
  rotate_left
  · simp only [pt_, pn_, sz_, ss_, i64_w, i32_w]; rfl
  refine take_ (i := 3) (N := some 12) (v := .int .i64 r.most) (a' := ?a3) #[true, false, true, true, false] rfl rfl (by kernel_rfl) (fun _ _ _ h => h) (Or.inl ⟨by rfl, fun w' hw' => ?y3⟩) HHD.out ?ha3 ?h3
  case y3 =>
    have hc := (blk_cell hw' 0).trans HR.out.c0
    (go_simp; first | done | with_reducible rfl)
  case ha3 => (simp only [pt_, pn_, sz_, ss_, i64_w, i32_w]; rfl)
  refine one_ (i := 1) (N := some 10) #[true, true, true, true, false] rfl rfl (by kernel_rfl) (by decide) (fun K hK => ?_)
  refine goes_ Try.func64 (by kernel_rfl) rfl #[.agg X] (by rfl) rfl rfl (by (try simp only [List.map_toArray, List.map_cons, List.map_nil]); first | done | rfl) ?_
  refine (ref_len _ (HR.out.keep HBD.out)).mono ?_
  rintro e w1 ⟨rfl, hb1⟩
  refine ⟨_, rfl, ?_⟩
  refine hK.out _ _ (blk_below HHD.out hb1) (fun hHeld => ?_)
  have HB1 := Aside0.mk (HBD.out.trans (hb1.mono HBD.out.size))
  have HH1 := Aside0.mk (blk_below HHD.out hb1)
  have HZ1 := Aside0.mk (blk_below HZD.out hb1)
  clear hK hHeld hb1
  refine norm_ (a' := ?_) ?_ ?_
  rotate_left
  · show Act.put _ (some 10) _ = _
    simp only [pt_, pn_, sz_, ss_, i64_w, i32_w]
    rfl
  refine pure_ (i := 4) (N := some 13) (v := ?_) (a' := ?_) #[true, true, true, true, true] rfl rfl (by kernel_rfl) (fun _ _ _ h => h) (Or.inl ⟨by rfl, ?_⟩) ?_ ?_
  rotate_left
  · intro w'
    (go_simp); (with_reducible rfl)
  rotate_left
  · simp only [pt_, pn_, sz_, ss_, i64_w, i32_w]; rfl
  refine done_ (by kernel_rfl) ?_
  go_wp2_with (first
    | (refine wpList_load_row rfl 42 (.tmp 2) rfl w.heap.size rfl 42 X (0, 0) _ HH1.out Try.underlying42 rfl (by rw [HR.out.sz]; exact info42) ?_)
    | (refine wpList_store_row rfl 42 (.tmp 4) (.tmp 14) rfl (w.heap.size + 1) X rfl rfl 42 Try.zeroCells42 HZ1.out (by rw [HR.out.sz]; exact info42) (by rw [HR.out.sz]; exact zero42) HR.out.one ?_)
    | fail)
  have hz2 := setRow_heap w1 (w.heap.size + 1) Try.zeroCells42 X 42 (0, 0) HZ1.out
  refine bodyPost_ret (results_42b rfl rfl rfl rfl HR.out.sz hz2) rfl ?_
  have hb9 : Below w.heap.size w (w1.setRow (w.heap.size + 1) X) := HB1.out.grown (setRow_grown w1 _ X) HB1.out.size (fun k e => by injection e with e; omega)
  exact ⟨X, rfl, HR.out.keep hb9, hb9, .refl _ _⟩
end Go.Proofs.Ytpfikmchimlneaa.Ar
