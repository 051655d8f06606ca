/- Stores of whole structs and of single fields into a block that is known, over any program. No condition. -/
import Derived.Test.YtpfikmchimlneaaSl
set_option linter.unusedVariables false
set_option linter.unusedSimpArgs false
namespace Go.Proofs.YtpfikmchimlneaaW.Sl
open Go.RowKit Go.Proofs.YtpfikmchimlneaaW.PrintWords Go.Proofs.YtpfikmchimlneaaW.PrintWords.Kd
section
variable {P : Program} {ops : Array Oper} {rest : List Oper} {o : Oper} {a : Act} {Q : Exit → Act → World → Prop}
/-- what is stored into a block leaves the other blocks -/
theorem setCells_os (w : World) (g : Nat) : ∀ (vs : List Value) (o : Nat) {w1 : World}, w1.os = w.os → w1.tape = w.tape → w1.output = w.output → w1.heap.size = w.heap.size → (w1.setCells g o vs).os = w.os ∧ (w1.setCells g o vs).tape = w.tape ∧ (w1.setCells g o vs).output = w.output ∧ (w1.setCells g o vs).heap.size = w.heap.size
  | [], _, _, h1, h2, h3, h4 => ⟨h1, h2, h3, h4⟩
  | v :: r, o, w1, h1, h2, h3, h4 => by
    rw [World.setCells]
    exact setCells_os w g r (o + 1) (by simpa [World.setCell] using h1) (by simpa [World.setCell] using h2) (by simpa [World.setCell] using h3) (by simpa [World.setCell] using h4)
theorem setCells_grown (w : World) (g o : Nat) (vs : List Value) : w.grownBy (w.setCells g o vs) (some g) := by
  obtain ⟨h1, h2, h3, h4⟩ := setCells_os w g vs o (w1 := w) rfl rfl rfl rfl
  exact ⟨h1, h2, h3, Nat.le_of_eq h4.symm, fun k hk hne => setCells_far vs o k (fun e => hne (by rw [e]))⟩
/-- a struct of six cells is stored whole -/
theorem store6 {W : World} (hgd : o.guard = none) {t : TypeId} {p : Tmp} {x : Operand} (ho : o.op = .store t (.tmp p) x) (hN : o.dst = none) {g : Nat} {tt : TypeId} {c0 c1 c2 c3 c4 c5 : Value} (v0 v1 v2 v3 v4 v5 : Value) (hp : a.eval (.tmp p) = .pointer (some ⟨g, 0, none⟩)) (hx : a.eval x = .agg #[v0, v1, v2, v3, v4, v5]) (hg : W.heap[g]? = some (.cells #[c0, c1, c2, c3, c4, c5] tt (0, 0))) (ht : (P.info? t).map (·.size) = some 6) (h1 : ∀ q ∈ [v0, v1, v2, v3, v4, v5], q.oneCell' = true)
    (h : ∀ w1, w1.heap[g]? = some (.cells #[v0, v1, v2, v3, v4, v5] tt (0, 0)) → W.grownBy w1 (some g) → wpList P ops Q rest a w1) : wpList P ops Q (o :: rest) a W := by
  have hrun := run_store_run (P := P) (w := W) (g := g) (o := 0) t (.agg #[v0, v1, v2, v3, v4, v5]) [v0, v1, v2, v3, v4, v5] hg rfl ht (by simp) h1
  have hW : (W.setCells g 0 [v0, v1, v2, v3, v4, v5]).heap[g]? = some (.cells #[v0, v1, v2, v3, v4, v5] tt (0, 0)) := by
    simp only [World.setCells]
    exact blk_put (blk_put (blk_put (blk_put (blk_put (blk_put hg 0 v0 rfl) 1 v1 rfl) 2 v2 rfl) 3 v3 rfl) 4 v4 rfl) 5 v5 rfl
  refine wpList_plain hgd fun K hK => ?_
  unfold Oper.wp execOp
  simp only [ho, hp, hx, Sem.run_bind, Sem.run_pure, Result.andThen_ok, hrun]
  show K (a.put o.dst undef) _
  rw [hN]
  exact hK _ _ (h _ hW (setCells_grown _ _ _ _))
/-- a field of one cell is stored -/
theorem store1 {W : World} (hgd : o.guard = none) {t : TypeId} {p : Tmp} {x : Operand} (ho : o.op = .store t (.tmp p) x) (hN : o.dst = none) {g i : Nat} {tt : TypeId} {cur cur' : Array Value} (u : Value) (hp : a.eval (.tmp p) = .pointer (some ⟨g, i, none⟩)) (hx : a.eval x = u) (hg : W.heap[g]? = some (.cells cur tt (0, 0))) (hi : i < cur.size) (hu : u.cells.toList = [u]) (h1 : u.oneCell' = true) (ht : (P.info? t).map (·.size) = some 1) (hc : cur.setIfInBounds i u = cur')
    (h : ∀ w1, w1.heap[g]? = some (.cells cur' tt (0, 0)) → W.grownBy w1 (some g) → wpList P ops Q rest a w1) : wpList P ops Q (o :: rest) a W := by
  have hrun := run_store_run (P := P) (w := W) (g := g) (o := i) t u [u] hg hu ht (by simp; omega) (by simpa using h1)
  have hW : (W.setCells g i [u]).heap[g]? = some (.cells cur' tt (0, 0)) := by
    simp only [World.setCells]
    exact blk_put hg i u hc
  refine wpList_plain hgd fun K hK => ?_
  unfold Oper.wp execOp
  simp only [ho, hp, hx, Sem.run_bind, Sem.run_pure, Result.andThen_ok, hrun]
  show K (a.put o.dst undef) _
  rw [hN]
  exact hK _ _ (h _ hW (setCells_grown _ _ _ _))
end
end Go.Proofs.YtpfikmchimlneaaW.Sl
