/- The reference's arena as a value of 131 cells; Len, There, Set, Give. -/
import Derived.Test.YtpfikmchimlneaaArH
import Derived.Deep.RegionHeld3
import Derived.Laws.Rows
set_option linter.unusedVariables false
set_option linter.unusedSimpArgs false
namespace Go.Proofs.Ytpfikmchimlneaa.Ar
open Go.RowKit Go.Proofs.YtpfikmchimlneaaW.PrintWords Go.Proofs.YtpfikmchimlneaaW.PrintWords.Kd Go.Proofs.YtpfikmchimlneaaW.PrintLast Go.Proofs.YtpfikmchimlneaaW.PrintMore Go.Proofs.YtpfikmchimlneaaW.Sl Go.Proofs.YtpfikmchimlneaaW.Ar
/-- what the reference's arena is, as data -/
structure Rf where
  most : Int
  top : Int
  tk : List Bool
  vl : List Int
  back : List Int
structure RV (B : Nat) (W : World) (X : Array Value) (r : Rf) : Prop where
  sz : X.size = 131
  one : X.all (·.oneCell') = true
  c0 : X[0]? = some (.int .i64 r.most)
  c1 : X[1]? = some (.int .i64 r.top)
  tk : ∀ i, i < 64 → X[2 + i]? = some (.bool (r.tk.getD i false))
  vl : ∀ i, i < 64 → X[66 + i]? = some (.int .i64 (r.vl.getD i 0))
  bk : ∃ v, X[130]? = some v ∧ (Kd.int .i64).R 3 W B (fun _ => True) v r.back
  lt : r.tk.length = 64
  lv : r.vl.length = 64
variable {B g : Nat} {W W' : World} {X : Array Value} {r : Rf}
theorem RV.keep (h : RV B W X r) (hb : Below W.heap.size W W') : RV B W' X r :=
  ⟨h.sz, h.one, h.c0, h.c1, h.tk, h.vl, by obtain ⟨v, h1, h2⟩ := h.bk; exact ⟨v, h1, R_below h2 hb⟩, h.lt, h.lv⟩
theorem RV.lower (h : RV B W X r) {B' : Nat} (hb : B' ≤ B) : RV B' W X r :=
  ⟨h.sz, h.one, h.c0, h.c1, h.tk, h.vl, by obtain ⟨v, h1, h2⟩ := h.bk; exact ⟨v, h1, R_lower h2 hb⟩, h.lt, h.lv⟩
theorem RV.only {v : Value} {s : St Int} {B2 : Nat} (h : RV B W X r) (hA : AI B2 W g v s) (ho : Only g v.ownBlock W W') : RV B W' X r :=
  ⟨h.sz, h.one, h.c0, h.c1, h.tk, h.vl, by obtain ⟨u, h1, h2⟩ := h.bk; exact ⟨u, h1, hA.rowOf ho h2 (by simp [Kd.int, Kd.scalar]) (by simp [Kd.int, Kd.scalar])⟩, h.lt, h.lv⟩
/-- a cell of a block of another type has changed -/
theorem RV.set (h : RV B W X r) {cur : Array Value} {t : TypeId} (hb : W.heap[g]? = some (.cells cur t (0, 0))) (ht : t ≠ 3) (i : Nat) (u : Value) : RV B (W.setCell ⟨g, i, none⟩ u) X r :=
  ⟨h.sz, h.one, h.c0, h.c1, h.tk, h.vl, by obtain ⟨v, h1, h2⟩ := h.bk; exact ⟨v, h1, R_set h2 hb (by intro q hq; simp [Kd.int, Kd.scalar] at hq; rw [hq]; exact fun e => ht e.symm) i u⟩, h.lt, h.lv⟩
theorem one_set (h : X.all (·.oneCell') = true) (i : Nat) {u : Value} (hu : u.oneCell' = true) : (X.setIfInBounds i u).all (·.oneCell') = true := by
  rw [Array.all_eq_true] at h ⊢
  intro j hj
  rw [Array.size_setIfInBounds] at hj
  rw [Array.getElem_setIfInBounds hj]
  split
  · exact hu
  · exact h j hj
theorem RV.setTk (h : RV B W X r) (i : Nat) (hi : i < 64) (b : Bool) : RV B W (X.setIfInBounds (2 + i) (.bool b)) { r with tk := r.tk.set i b } := by
  have hs := h.sz
  refine ⟨by simp [hs], one_set h.one _ rfl, ?_, ?_, fun j hj => ?_, fun j hj => ?_, ?_, by simp [h.lt], h.lv⟩
  · rw [Array.getElem?_setIfInBounds, if_neg (by omega)]; exact h.c0
  · rw [Array.getElem?_setIfInBounds, if_neg (by omega)]; exact h.c1
  · rw [Array.getElem?_setIfInBounds]
    by_cases e : i = j
    · subst e
      rw [if_pos rfl, if_pos (by omega)]
      simp [List.getD_eq_getElem?_getD, h.lt, hi]
    · rw [if_neg (by omega), h.tk j hj]
      simp [List.getD_eq_getElem?_getD, List.getElem?_set, e]
  · rw [Array.getElem?_setIfInBounds, if_neg (by omega)]; exact h.vl j hj
  · obtain ⟨v, h1, h2⟩ := h.bk
    exact ⟨v, by rw [Array.getElem?_setIfInBounds, if_neg (by omega)]; exact h1, h2⟩
theorem RV.setVl (h : RV B W X r) (i : Nat) (hi : i < 64) (x : Int) : RV B W (X.setIfInBounds (66 + i) (.int .i64 x)) { r with vl := r.vl.set i x } := by
  have hs := h.sz
  refine ⟨by simp [hs], one_set h.one _ rfl, ?_, ?_, fun j hj => ?_, fun j hj => ?_, ?_, h.lt, by simp [h.lv]⟩
  · rw [Array.getElem?_setIfInBounds, if_neg (by omega)]; exact h.c0
  · rw [Array.getElem?_setIfInBounds, if_neg (by omega)]; exact h.c1
  · rw [Array.getElem?_setIfInBounds, if_neg (by omega)]; exact h.tk j hj
  · rw [Array.getElem?_setIfInBounds]
    by_cases e : i = j
    · subst e
      rw [if_pos rfl, if_pos (by omega)]
      simp [List.getD_eq_getElem?_getD, h.lv, hi]
    · rw [if_neg (by omega), h.vl j hj]
      simp [List.getD_eq_getElem?_getD, List.getElem?_set, e]
  · obtain ⟨v, h1, h2⟩ := h.bk
    exact ⟨v, by rw [Array.getElem?_setIfInBounds, if_neg (by omega)]; exact h1, h2⟩
theorem RV.setTop (h : RV B W X r) (x : Int) : RV B W (X.setIfInBounds 1 (.int .i64 x)) { r with top := x } := by
  have hs := h.sz
  refine ⟨by simp [hs], one_set h.one _ rfl, ?_, ?_, fun j hj => ?_, fun j hj => ?_, ?_, h.lt, h.lv⟩
  · rw [Array.getElem?_setIfInBounds, if_neg (by omega)]; exact h.c0
  · rw [Array.getElem?_setIfInBounds, if_pos rfl, if_pos (by omega)]
  · rw [Array.getElem?_setIfInBounds, if_neg (by omega)]; exact h.tk j hj
  · rw [Array.getElem?_setIfInBounds, if_neg (by omega)]; exact h.vl j hj
  · obtain ⟨v, h1, h2⟩ := h.bk
    exact ⟨v, by rw [Array.getElem?_setIfInBounds, if_neg (by omega)]; exact h1, h2⟩
theorem RV.setBack (h : RV B W X r) {v : Value} {l : List Int} (hR : (Kd.int .i64).R 3 W' B (fun _ => True) v l) : RV B W' (X.setIfInBounds 130 v) { r with back := l } := by
  have hs := h.sz
  obtain ⟨A, c, rfl⟩ := R_slice hR
  refine ⟨by simp [hs], one_set h.one _ rfl, ?_, ?_, fun j hj => ?_, fun j hj => ?_, ⟨_, by rw [Array.getElem?_setIfInBounds, if_pos rfl, if_pos (by omega)], hR⟩, h.lt, h.lv⟩
  · rw [Array.getElem?_setIfInBounds, if_neg (by omega)]; exact h.c0
  · rw [Array.getElem?_setIfInBounds, if_neg (by omega)]; exact h.c1
  · rw [Array.getElem?_setIfInBounds, if_neg (by omega)]; exact h.tk j hj
  · rw [Array.getElem?_setIfInBounds, if_neg (by omega)]; exact h.vl j hj
theorem info42 : (Try.prog.info? 42).map (·.size) = some 131 := by kernel_rfl
theorem zero42 : Try.zeroCells42.size = 131 := by kernel_rfl
def rlen (r : Rf) : Nat := r.tk.countP id
theorem rlen_step (l : List Bool) (k : Nat) (h : k < l.length) : (l.take (k + 1)).countP id = (l.take k).countP id + (if l.getD k false = true then 1 else 0) := by
  rw [List.take_succ_eq_append_getElem h, List.countP_append, List.getD_eq_getElem?_getD, List.getElem?_eq_getElem h]
  cases l[k] <;> simp
set_option maxHeartbeats 4000000 in
set_option maxRecDepth 100000 in
theorem ref_len (w : World) (h : RV B w X r) : Calls Try.prog 64 #[.agg X] w fun e w' => e = .returned (.int .i64 (rlen r : Int)) ∧ Below w.heap.size w w' := by
  have hh := heap_alloc_new w (.cells X 42)
  have HH := Aside0.mk hh
  have HR := Aside0.mk h
  have HB := Aside0.mk ((Below.refl w.heap.size w).alloc (Nat.le_refl _) (.cells X 42))
  clear hh h
  go_enter Try.func64, Try.ntmps64
  go_wp2_with fail
  obtain ⟨W, hW⟩ : ∃ W, w.alloc (.cells X 42) = W := ⟨_, rfl⟩
  rw [hW] at HH HB ⊢
  clear hW
  go_loop [3, 4] (fun n i => ∃ k : Nat, k ≤ 64 ∧ i = .int .i64 (k : Int) ∧ n = .int .i64 (((r.tk.take k).countP id : Nat) : Int)) (fun _ i => 64 - (intOf i).toNat)
  case atStart => exact ⟨0, by omega, rfl, rfl⟩
  case round =>
    obtain ⟨k, hk, rfl, rfl⟩ := hrel
    by_cases hlt : k < 64
    · have HS := Aside0.mk (rlen_step r.tk k (by rw [HR.out.lt]; exact hlt))
      have hc : W.cell? ⟨w.heap.size, 2 + k, none⟩ = some (.bool (r.tk.getD k false)) := (blk_cell HH.out _).trans (HR.out.tk k hlt)
      have hle : (r.tk.take k).countP id ≤ 64 := Nat.le_trans List.countP_le_length (by simp; omega)
      generalize (r.tk.take k).countP id = c at *
      generalize hb : r.tk.getD k false = b at *
      cases b
      · go_wp2
        go_round
        case rel => exact ⟨k + 1, by omega, by simp, by rw [HS.out]; simp⟩
        case measure => simp [intOf]; omega
      · go_wp2
        go_round
        case rel => exact ⟨k + 1, by omega, by simp, by rw [HS.out]; simp⟩
        case measure => simp [intOf]; omega
    · obtain rfl : k = 64 := by omega
      go_wp2
      go_ret
      refine ⟨?_, HB.out⟩
      rw [List.take_of_length_le (by rw [HR.out.lt]; omega)]
      rfl
def rhas (r : Rf) (i : Int) : Bool := decide (1 ≤ i) && decide (i < 64) && r.tk.getD i.toNat false
set_option maxHeartbeats 4000000 in
set_option maxRecDepth 100000 in
theorem ref_there (w : World) (h : RV B w X r) (i : Int) : Calls Try.prog 63 #[.agg X, .int .i64 i] w fun e w' => e = .returned (.bool (rhas r i)) ∧ Below w.heap.size w w' := by
  have hh := heap_alloc_new w (.cells X 42)
  have HB := Aside0.mk ((Below.refl w.heap.size w).alloc (Nat.le_refl _) (.cells X 42))
  unfold rhas
  by_cases h1 : 1 ≤ i
  · by_cases h2 : i < 64
    · have hc : (w.alloc (.cells X 42)).cell? ⟨w.heap.size, 2 + i.toNat, none⟩ = some (.bool (r.tk.getD i.toNat false)) := (blk_cell hh _).trans (h.tk i.toNat (by omega))
      rw [decide_eq_true h1, decide_eq_true h2]
      obtain ⟨j, rfl⟩ := Int.eq_ofNat_of_zero_le (show 0 ≤ i by omega)
      rw [Int.toNat_natCast] at hc ⊢
      have hj : j < 64 := by omega
      have hj1 : 1 ≤ j := by omega
      clear h hh
      generalize r.tk.getD j false = b at *
      go_enter Try.func63, Try.ntmps63
      go_wp2
      go_ret
      exact ⟨by simp, HB.out⟩
    · rw [decide_eq_true h1, decide_eq_false h2]
      have h3 : 64 ≤ i := by omega
      clear h hh
      go_enter Try.func63, Try.ntmps63
      go_wp2
      go_ret
      exact ⟨rfl, HB.out⟩
  · rw [decide_eq_false h1]
    have h3 : i < 1 := by omega
    clear h hh
    go_enter Try.func63, Try.ntmps63
    go_wp2
    go_ret
    exact ⟨rfl, HB.out⟩
end Go.Proofs.Ytpfikmchimlneaa.Ar
