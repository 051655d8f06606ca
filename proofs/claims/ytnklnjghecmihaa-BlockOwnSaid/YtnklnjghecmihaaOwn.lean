/- Rows that may be written, whichever they hold: for laws that write over what they were told. Over any program. No condition. -/
import Derived.Test.YtnklnjghecmihaaH5V0
set_option linter.unusedVariables false
set_option linter.unusedSimpArgs false
namespace Go.Proofs.YtnklnjghecmihaaW.Own
open Go.RowKit Go.Proofs.YtnklnjghecmihaaW.PrintWords Go.Proofs.YtnklnjghecmihaaW.PrintWords.Kd Go.Proofs.YtnklnjghecmihaaW.Sl
/-- a slice whose cells, from the base on, may be written -/
def Wr (e sz base : Nat) (W : World) (v : Value) : Prop := ∃ A n c, v = .slice A n c ∧ n ≤ maxLen ∧ (0 < n → ∃ g cur, A = some ⟨g, 0, none⟩ ∧ base ≤ g ∧ W.heap[g]? = some (.cells cur e (0, 0)) ∧ n * sz ≤ cur.size)
theorem Wr.of_R {α : Type} {d : Kd α} {e base : Nat} {W : World} {ok : Nat → Prop} {v : Value} {xs : List α} (h : d.R e W base ok v xs) : Wr e d.sz base W v := by
  obtain ⟨_, inner, ⟨h1, h2⟩, _⟩ := h
  rcases h2 with ⟨rfl, h0⟩ | ⟨g, cap, cur, rfl, hb, hh, hnc, hcm, hcs, _⟩
  · exact ⟨none, 0, 0, rfl, Nat.zero_le _, fun h => absurd h (by omega)⟩
  · exact ⟨_, _, _, rfl, Nat.le_trans hnc hcm, fun _ => ⟨g, cur, rfl, hb, hh, by rw [hcs]; exact Nat.mul_le_mul_right _ hnc⟩⟩
theorem Wr.lower {e sz base base' : Nat} {W : World} {v : Value} (h : Wr e sz base W v) (hb : base' ≤ base) : Wr e sz base' W v := by
  obtain ⟨A, n, c, rfl, hn, h⟩ := h
  refine ⟨A, n, c, rfl, hn, fun h0 => ?_⟩
  obtain ⟨g, cur, h1, h2, h3, h4⟩ := h h0
  exact ⟨g, cur, h1, Nat.le_trans hb h2, h3, h4⟩
theorem Wr.below {e sz base : Nat} {W W' : World} {v : Value} (h : Wr e sz base W v) (hb : Below W.heap.size W W') : Wr e sz base W' v := by
  obtain ⟨A, n, c, rfl, hn, h⟩ := h
  refine ⟨A, n, c, rfl, hn, fun h0 => ?_⟩
  obtain ⟨g, cur, h1, h2, h3, h4⟩ := h h0
  exact ⟨g, cur, h1, h2, (hb.block _ (blk_lt h3)).trans h3, h4⟩
/-- a block is written: what could be written may be still -/
theorem Wr.put {e sz base : Nat} {W W' : World} {v : Value} {g : Nat} {cur cur' : Array Value} (h : Wr e sz base W v) (hg : W.heap[g]? = some (.cells cur e (0, 0))) (hg' : W'.heap[g]? = some (.cells cur' e (0, 0))) (hs : cur'.size = cur.size) (hgr : W.grownBy W' (some g)) : Wr e sz base W' v := by
  obtain ⟨A, n, c, rfl, hn, h⟩ := h
  refine ⟨A, n, c, rfl, hn, fun h0 => ?_⟩
  obtain ⟨g2, cur2, h1, h2, h3, h4⟩ := h h0
  by_cases hgg : g2 = g
  · subst hgg
    rw [hg] at h3
    simp only [Option.some.injEq, Obj.cells.injEq, and_true] at h3
    exact ⟨g2, cur', h1, h2, hg', by rw [hs, h3]; exact h4⟩
  · exact ⟨g2, cur2, h1, h2, blk_grown h3 hgr (fun e => hgg (by injection e)), h4⟩
theorem setCells_blk {g : Nat} {tt : TypeId} : ∀ (vs : List Value) (o : Nat) {w : World} {cur : Array Value}, w.heap[g]? = some (.cells cur tt (0, 0)) → ∃ cur', (w.setCells g o vs).heap[g]? = some (.cells cur' tt (0, 0)) ∧ cur'.size = cur.size
  | [], o, w, cur, h => ⟨cur, h, rfl⟩
  | v :: r, o, w, cur, h => by
    rw [World.setCells]
    obtain ⟨c2, h1, h2⟩ := setCells_blk r (o + 1) (blk_set h o v)
    exact ⟨c2, h1, by rw [h2]; simp⟩
section
variable {P : Program} {ops : Array Oper} {rest : List Oper} {o : Oper} {a : Act} {Q : Exit → Act → World → Prop}
/-- a value is stored anywhere in a block -/
theorem storeN {W : World} (hgd : o.guard = none) {t : TypeId} {p : Tmp} {x : Operand} (ho : o.op = .store t (.tmp p) x) (hN : o.dst = none) {g i : Nat} {tt : TypeId} {cur : Array Value} (u : Value) (seg : List Value) (hp : a.eval (.tmp p) = .pointer (some ⟨g, i, none⟩)) (hx : a.eval x = u) (hu : u.cells.toList = seg) (hg : W.heap[g]? = some (.cells cur tt (0, 0))) (hi : i + seg.length ≤ cur.size) (ht : (P.info? t).map (·.size) = some seg.length) (h1 : ∀ q ∈ seg, q.oneCell' = true)
    (h : ∀ w1 cur', w1.heap[g]? = some (.cells cur' tt (0, 0)) → cur'.size = cur.size → W.grownBy w1 (some g) → wpList P ops Q rest a w1) : wpList P ops Q (o :: rest) a W := by
  have hrun := run_store_run (P := P) (w := W) (g := g) (o := i) t u seg hg hu ht hi h1
  obtain ⟨cur', h2, h3⟩ := setCells_blk seg i hg
  refine wpList_plain hgd fun K hK => ?_
  unfold Oper.wp execOp
  simp only [ho, hp, hx, Sem.run_bind, Sem.run_pure, Result.andThen_ok, hrun]
  show K (a.put o.dst undef) _
  rw [hN]
  exact hK _ _ (h _ cur' h2 h3 (setCells_grown _ _ _ _))
end
/-- what a law keeps that writes over rows: the row of rows, and that each may be written -/
structure Lp (e sz te : Nat) (W2 wr : World) (gl : Nat) (vs : Array Value) : Prop where
  low : Below W2.heap.size W2 wr
  lst : wr.heap[gl]? = some (.cells vs te (0, 0))
  own : ∀ i, (h : i < vs.size) → Wr e sz W2.heap.size wr vs[i]
theorem Lp.put {e sz te : Nat} {W2 W W' : World} {gl : Nat} {vs : Array Value} {g : Nat} {cur cur' : Array Value} (h : Lp e sz te W2 W gl vs) (hne : te ≠ e) (hb : W2.heap.size ≤ g) (hg : W.heap[g]? = some (.cells cur e (0, 0))) (hg' : W'.heap[g]? = some (.cells cur' e (0, 0))) (hs : cur'.size = cur.size) (hgr : W.grownBy W' (some g)) : Lp e sz te W2 W' gl vs :=
  ⟨h.low.grown hgr h.low.size (fun k e => by injection e with e; omega), blk_grown h.lst hgr (fun e => by injection e with e; exact blk_ne h.lst hg hne e), fun i hi => (h.own i hi).put hg hg' hs hgr⟩
end Go.Proofs.YtnklnjghecmihaaW.Own
