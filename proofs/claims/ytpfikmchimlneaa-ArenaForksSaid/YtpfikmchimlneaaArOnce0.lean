/- ArenaOnce: what its loops say, in plain words. -/
import Derived.Test.YtpfikmchimlneaaArIn
set_option linter.unusedVariables false
set_option linter.unusedSimpArgs false
namespace Go.Proofs.Ytpfikmchimlneaa.Ar
open Go.Shelf Go.Proofs.YtpfikmchimlneaaW.Mine Go.RowKit Go.Proofs.YtpfikmchimlneaaW.PrintWords Go.Proofs.YtpfikmchimlneaaW.PrintWords.Kd Go.Proofs.YtpfikmchimlneaaW.PrintLast Go.Proofs.YtpfikmchimlneaaW.PrintMore Go.Proofs.YtpfikmchimlneaaW.Sl Go.Proofs.YtpfikmchimlneaaW.Ar
variable {B g : Nat} {w W V W' : World} {v v' : Value} {s s' : St Int} {r : Rf}
theorem atLower (h : AI B W g v s) {b : Nat} (hb : b ≤ B) : AI b W g v s := ⟨Nat.le_trans hb h.hg, h.blk, R_lower h.row hb, h.nil⟩
def okA (o : Option (List Bool)) (x : Int × Int) : Option (List Bool) := o.bind fun l => if 1 ≤ x.1 ∧ x.1 ≤ 12 ∧ l.getD x.1.toNat false = false then some (l.set x.1.toNat true) else none
def stO (pre : List (Int × Int)) : Option (List Bool) := pre.foldl okA (some (List.replicate 16 false))
theorem stO_snoc (pre : List (Int × Int)) (x : Int × Int) : stO (pre ++ [x]) = okA (stO pre) x := by simp only [stO, List.foldl_append, List.foldl_cons, List.foldl_nil]
theorem stO_seq (s : St Int) (h12 : s.cells.length ≤ 12) : ∀ k, k ≤ s.cells.length → ∃ sl, stO (seqOf s k) = some sl ∧ sl.length = 16 ∧ ∀ j, j < 16 → sl.getD j false = (decide (1 ≤ j) && decide (j ≤ k) && (s.cells.getD (j - 1) z0).2.1)
  | 0, _ => ⟨List.replicate 16 false, rfl, List.length_replicate, fun j hj => by
      rw [gdr2 16 j false]
      by_cases h : 1 ≤ j
      · rw [decide_eq_true h, decide_eq_false (show ¬ j ≤ 0 by omega)]; rfl
      · rw [decide_eq_false h]; rfl⟩
  | k + 1, hk => by
    obtain ⟨sl, h1, h2, h3⟩ := stO_seq s h12 k (by omega)
    rw [seqOf]
    cases hb : (s.cells.getD k z0).2.1
    · rw [if_neg (by decide), List.append_nil]
      refine ⟨sl, h1, h2, fun j hj => ?_⟩
      rw [h3 j hj]
      by_cases e : j = k + 1
      · subst e
        rw [Nat.add_sub_cancel, hb]
        simp
      · rw [show decide (j ≤ k) = decide (j ≤ k + 1) from decide_eq_decide.2 (by omega)]
    · rw [if_pos rfl, stO_snoc, h1]
      have e0 : ((k : Int) + 1).toNat = k + 1 := by omega
      have hf : sl.getD (k + 1) false = false := by
        rw [h3 _ (by omega), decide_eq_false (show ¬ k + 1 ≤ k by omega)]
        simp
      refine ⟨sl.set (k + 1) true, ?_, by simp [h2], fun j hj => ?_⟩
      · show (if 1 ≤ (k : Int) + 1 ∧ (k : Int) + 1 ≤ 12 ∧ sl.getD ((k : Int) + 1).toNat false = false then some (sl.set ((k : Int) + 1).toNat true) else none) = _
        rw [e0, if_pos ⟨by omega, by omega, hf⟩]
      · rw [bset _ _ _ _ (by omega)]
        by_cases e : k + 1 = j
        · subst e
          rw [if_pos rfl, Nat.add_sub_cancel, hb]
          simp
        · rw [if_neg e, h3 j hj, show decide (j ≤ k) = decide (j ≤ k + 1) from decide_eq_decide.2 (by omega)]
theorem has_take (h : Sim s r) (x i : Int) (ht : take1 s x = some (s', i)) (j : Nat) : s'.has (j : Int) = (decide ((j : Int) = i) || s.has (j : Int)) := by
  by_cases hf : 0 < s.free
  · obtain ⟨q, h1, h2, h3, rfl⟩ := take1_old ht hf z0
    subst h3
    unfold St.has
    rw [List.length_set]
    by_cases hj : 1 ≤ (j : Int)
    · by_cases hl : (j : Int) ≤ (s.cells.length : Int)
      · have hjl : ((j : Int) - 1).toNat < s.cells.length := by omega
        rw [decide_eq_true hj, decide_eq_true hl, List.getElem?_set, List.getElem?_eq_getElem hjl]
        by_cases e : q = ((j : Int) - 1).toNat
        · rw [if_pos e, if_pos (by omega), decide_eq_true (show (j : Int) = (q : Int) + 1 by omega)]
          rfl
        · rw [if_neg e, decide_eq_false (show ¬ (j : Int) = (q : Int) + 1 by omega)]
          rfl
      · rw [decide_eq_false hl, decide_eq_false (show ¬ (j : Int) = (q : Int) + 1 by omega)]
        simp
    · rw [decide_eq_false hj, decide_eq_false (show ¬ (j : Int) = (q : Int) + 1 by omega)]
      simp
  · obtain ⟨rfl, rfl⟩ := take1_new ht hf
    unfold St.has
    rw [List.length_append, List.length_singleton]
    by_cases hj : 1 ≤ (j : Int)
    · by_cases hl : (j : Int) ≤ (s.cells.length : Int)
      · have hjl : ((j : Int) - 1).toNat < s.cells.length := by omega
        rw [decide_eq_true hj, decide_eq_true hl, decide_eq_true (show (j : Int) ≤ ((s.cells.length + 1 : Nat) : Int) by omega), List.getElem?_append_left hjl, decide_eq_false (show ¬ (j : Int) = (s.cells.length : Int) + 1 by omega)]
        rfl
      · by_cases e : (j : Int) = (s.cells.length : Int) + 1
        · have e2 : ((j : Int) - 1).toNat = s.cells.length := by omega
          rw [decide_eq_true hj, decide_eq_true e, decide_eq_true (show (j : Int) ≤ ((s.cells.length + 1 : Nat) : Int) by omega), e2, List.getElem?_append_right (Nat.le_refl _)]
          simp
        · rw [decide_eq_false hl, decide_eq_false e, decide_eq_false (show ¬ (j : Int) ≤ ((s.cells.length + 1 : Nat) : Int) by omega)]
          simp
    · rw [decide_eq_false hj, decide_eq_false (show ¬ (j : Int) = (s.cells.length : Int) + 1 by omega)]
      simp
/-- seen, as cells -/
def cellsB (l : List Bool) : Array Value := (l.map Value.bool).toArray
theorem cellsB_get (l : List Bool) (j : Nat) (h : j < l.length) : (cellsB l)[j]? = some (.bool (l.getD j false)) := by
  unfold cellsB
  rw [List.getElem?_toArray, List.getElem?_map, List.getD_eq_getElem?_getD, List.getElem?_eq_getElem h]
  rfl
theorem cellsB_set (l : List Bool) (j : Nat) (b : Bool) : (cellsB l).setIfInBounds j (.bool b) = cellsB (l.set j b) := by
  unfold cellsB
  simp [List.map_set]
theorem blkFrom {b k : Nat} {A C : World} {row : Option Nat} {cs : Array Value} {t : TypeId} (h : A.heap[k]? = some (.cells cs t (0, 0))) (hg : A.grownBy C row) (hr : ∀ r, row = some r → b ≤ r ∧ ∃ o : Obj, A.heap[r]? = some o ∧ o.isCells = false) : C.heap[k]? = some (.cells cs t (0, 0)) :=
  blk_grown h hg (fun e => by obtain ⟨_, o, ho, hc⟩ := hr k e.symm; rw [h] at ho; cases ho; cases hc)
theorem KA.from {b Bs : Nat} {A C D : World} {row : Option Nat} (h : KA g v Bs D A) (hD : D.heap.size ≤ b) (hgd : g < D.heap.size) (hbd : Bs < D.heap.size) (hvd : ∀ k, v.ownBlock = some k → k < D.heap.size) (hg : A.grownBy C row) (hr : ∀ r, row = some r → b ≤ r ∧ ∃ o : Obj, A.heap[r]? = some o ∧ o.isCells = false) : KA g v Bs D C := by
  have key : ∀ k, k < D.heap.size → C.heap[k]? = A.heap[k]? := fun k hk => hg.block k (Nat.lt_of_lt_of_le hk h.n) (fun e => by have := (hr k e.symm).1; omega)
  exact ⟨(key g hgd).trans h.a, (key Bs hbd).trans h.b, fun k hk => (key k (hvd k hk)).trans (h.r k hk), Nat.le_trans h.n hg.size⟩
theorem KA.put {Bs : Nat} {L : World} (hg : g < L.heap.size) (hb : Bs < L.heap.size) (hv : ∀ k, v.ownBlock = some k → k < L.heap.size) (W : World) (l : Nat) (o' : Obj) (hl : L.heap.size ≤ l) : KA g v Bs W (W.putObj l o') :=
  ⟨World.putObj_heap_other (by omega), World.putObj_heap_other (by omega), fun k hk => World.putObj_heap_other (by have := hv k hk; omega), by simp [World.putObj]⟩
theorem KA.setO {Bs : Nat} {L : World} (h : KA g v Bs L W) (p : Addr) (u : Value) (h1 : g ≠ p.block) (h2 : Bs ≠ p.block) (h3 : ∀ k, v.ownBlock = some k → k ≠ p.block) : KA g v Bs L (W.setCell p u) :=
  ⟨(Below.heap_setCell W p u g h1).trans h.a, (Below.heap_setCell W p u Bs h2).trans h.b, fun k hk => (Below.heap_setCell W p u k (h3 k hk)).trans (h.r k hk), by rw [World.size_setCell]; exact h.n⟩
/-- what ArenaOnce's first loop keeps -/
structure OI (w L : World) (g : Nat) (v : Value) (Bs gs : Nat) (pre : List (Int × Int)) (W : World) : Prop where mk ::
  out : ∃ sl, stO pre = some sl ∧ sl.length = 16 ∧ W.heap[gs]? = some (.cells (cellsB sl) 51 (0, 0)) ∧ W.heap[w.heap.size]? = some (.cells #[.bool false] 4 (0, 0)) ∧ Below w.heap.size w W ∧ KA g v Bs L W
theorem results_bool {fn : Func} {p : Tmp} (h : fn.results = #[.cell p 4]) {tmps : Array Value} {b : Bool} (hp : tmps.getD p undef = .pointer (some ⟨g, 0, none⟩)) (hg : W.cell? ⟨g, 0, none⟩ = some (.bool b)) :
    (results fn tmps).run Try.prog W = .ok (.bool b) W := by
  have hp' : tmps[p]?.getD undef = .pointer (some ⟨g, 0, none⟩) := by simpa using hp
  simp [results, h, hp', asAddr, go_sem, hg]
end Go.Proofs.Ytpfikmchimlneaa.Ar
