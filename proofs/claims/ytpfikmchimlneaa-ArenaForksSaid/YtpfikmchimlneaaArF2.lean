/- Two arenas that lie apart, each with its reference. -/
import Derived.Test.YtpfikmchimlneaaArFork
set_option linter.unusedVariables false
set_option linter.unusedSimpArgs false
namespace Go.Proofs.Ytpfikmchimlneaa.Ar
open Go.Proofs.YtpfikmchimlneaaW.Mine Go.RowKit Go.Proofs.YtpfikmchimlneaaW.PrintWords Go.Proofs.YtpfikmchimlneaaW.PrintWords.Kd Go.Proofs.YtpfikmchimlneaaW.PrintLast Go.Proofs.YtpfikmchimlneaaW.PrintMore Go.Proofs.YtpfikmchimlneaaW.Sl Go.Proofs.YtpfikmchimlneaaW.Ar
variable {B g x g' x' : Nat} {w W V W' : World} {v v' : Value} {s s' : St Int} {X Y : Array Value} {r r' : Rf}
/-- the arena g with its reference (X; x holds Y), and apart from it the arena g' with its reference in x' -/
structure Two (w W : World) (g x g' x' : Nat) (X Y : Array Value) : Prop where mk ::
  out : ∃ s r v s' r' X' v', AI w.heap.size W g v s ∧ RV w.heap.size W X r ∧ Sim s r ∧ AI w.heap.size W g' v' s' ∧ RV w.heap.size W X' r' ∧ Sim s' r' ∧
    W.heap[x']? = some (.cells X' 42 (0, 0)) ∧ W.heap[x]? = some (.cells Y 42 (0, 0)) ∧ Y.size = 131 ∧ g ≠ g' ∧ x ≠ x' ∧ (∀ k, v.ownBlock = some k → v'.ownBlock ≠ some k) ∧ Below w.heap.size w W ∧ w.heap.size ≤ x ∧ w.heap.size ≤ x'
theorem Two.keep (h : Two w W g x g' x' X Y) (hb : Below W.heap.size W W') : Two w W' g x g' x' X Y := by
  obtain ⟨s, r, v, s', r', X', v', h1, h2, h3, h4, h5, h6, h7, h8, h9, h10, h11, h12, h13, h14⟩ := h.out
  exact ⟨s, r, v, s', r', X', v', h1.keep hb, h2.keep hb, h3, h4.keep hb, h5.keep hb, h6, blk_below h7 hb, blk_below h8 hb, h9, h10, h11, h12, h13.trans (hb.mono h13.size), h14⟩
theorem Two.blk (h : Two w W g x g' x' X Y) : W.heap[x]? = some (.cells Y 42 (0, 0)) := by
  obtain ⟨s, r, v, s', r', X', v', h1, h2, h3, h4, h5, h6, h7, h8, h9, h10, h11, h12, h13, h14⟩ := h.out
  exact h8
theorem Two.bel (h : Two w W g x g' x' X Y) : Below w.heap.size w W := by
  obtain ⟨s, r, v, s', r', X', v', h1, h2, h3, h4, h5, h6, h7, h8, h9, h10, h11, h12, h13, h14⟩ := h.out
  exact h13
theorem Two.sz (h : Two w W g x g' x' X Y) : X.size = 131 := by
  obtain ⟨s, r, v, s', r', X', v', h1, h2, h3, h4, h5, h6, h7, h8, h9, h10, h11, h12, h13, h14⟩ := h.out
  exact h2.sz
theorem Two.szY (h : Two w W g x g' x' X Y) : Y.size = 131 := by
  obtain ⟨s, r, v, s', r', X', v', h1, h2, h3, h4, h5, h6, h7, h8, h9, h10, h11, h12, h13, h14⟩ := h.out
  exact h9
theorem Two.one (h : Two w W g x g' x' X Y) : X.all (·.oneCell') = true := by
  obtain ⟨s, r, v, s', r', X', v', h1, h2, h3, h4, h5, h6, h7, h8, h9, h10, h11, h12, h13, h14⟩ := h.out
  exact h2.one
theorem Two.gx (h : Two w W g x g' x' X Y) : w.heap.size ≤ x ∧ w.heap.size ≤ x' ∧ x < W.heap.size ∧ x' < W.heap.size ∧ w.heap.size ≤ W.heap.size := by
  obtain ⟨s, r, v, s', r', X', v', h1, h2, h3, h4, h5, h6, h7, h8, h9, h10, h11, h12, h13, h14⟩ := h.out
  exact ⟨h14.1, h14.2, blk_lt h8, blk_lt h7, h13.size⟩
theorem Two.symm (h : Two w W g x g' x' X X) : ∃ X', Two w W g' x' g x X' X' := by
  obtain ⟨s, r, v, s', r', X', v', h1, h2, h3, h4, h5, h6, h7, h8, h9, h10, h11, h12, h13, h14, h15⟩ := h.out
  exact ⟨X', ⟨s', r', v', s, r, X, v, h4, h5, h6, h1, h2, h3, h8, h7, h5.sz, fun e => h10 e.symm, fun e => h11 e.symm, fun k hk e => h12 k e hk, h13, h15, h14⟩⟩
theorem Two.alike (h : Two w W g x g' x' X Y) : Calls Try.prog 21 #[.pointer (some ⟨g, 0, none⟩), .agg X] W fun e w' => e = .returned (.bool true) ∧ Below W.heap.size W w' := by
  obtain ⟨s, r, v, s', r', X', v', h1, h2, h3, h4, h5, h6, h7, h8, h9, h10, h11, h12, h13, h14⟩ := h.out
  exact alike_calls W h1 h2 h3
theorem Two.fresh {k : Nat} {Z : Array Value} (h : Two w W g x g' x' X Y) (hz : W.heap[k]? = some (.cells Z 42 (0, 0))) (hx : k ≠ x) (hx' : k ≠ x') (hk : w.heap.size ≤ k) (U : Array Value) : Two w (W.setRow k U) g x g' x' X Y := by
  obtain ⟨s, r, v, s', r', X', v', h1, h2, h3, h4, h5, h6, h7, h8, h9, h10, h11, h12, h13, h14⟩ := h.out
  exact ⟨s, r, v, s', r', X', v', rowset h1 hz U, h2.row hz U, h3, rowset h4 hz U, h5.row hz U, h6, blk_row h7 (fun e => hx' e.symm) U, blk_row h8 (fun e => hx e.symm) U, h9, h10, h11, h12, h13.grown (setRow_grown _ _ _) h13.size (fun j e => by injection e with e; omega), h14⟩
theorem Two.put (h : Two w W g x g' x' X Y) : Two w (W.setRow x X) g x g' x' X X := by
  obtain ⟨s, r, v, s', r', X', v', h1, h2, h3, h4, h5, h6, h7, h8, h9, h10, h11, h12, h13, h14⟩ := h.out
  exact ⟨s, r, v, s', r', X', v', rowset h1 h8 X, h2.row h8 X, h3, rowset h4 h8 X, h5.row h8 X, h6, blk_row h7 (fun e => h11 e.symm) X, setRow_heap _ _ _ _ _ _ h8, h2.sz, h10, h11, h12, h13.grown (setRow_grown _ _ _) h13.size (fun j e => by injection e with e; have := h14.1; omega), h14⟩
/-- a deed of the one leaves the other as it was -/
theorem Two.step (h : Two w W g x g' x' X Y) (D I N : Int) : Calls Try.prog 20 #[.pointer (some ⟨g, 0, none⟩), .agg X, .agg #[.int .i64 D, .int .i64 I, .int .i64 N]] W fun e w' =>
    ∃ X3, e = .returned (.tuple #[.agg X3, .bool true]) ∧ Two w w' g x g' x' X3 Y ∧ ∀ (k : Nat) (cs : Array Value), W.heap[k]? = some (Obj.cells cs 42 (0, 0)) → w'.heap[k]? = some (Obj.cells cs 42 (0, 0)) := by
  obtain ⟨s, r, v, s', r', X', v', h1, h2, h3, h4, h5, h6, h7, h8, h9, h10, h11, h12, h13, h14⟩ := h.out
  refine (step_any W h1 h2 h13.size h3 D I N).mono ?_
  rintro e w3 ⟨X3, s3, r3, rfl, hsim3, hmost3, hR3, hd3⟩
  obtain ⟨v3, hA3, hO3, hS3⟩ := hd3.out
  have hb : ∀ (k : Nat) (cs : Array Value), W.heap[k]? = some (.cells cs 42 (0, 0)) → w3.heap[k]? = some (.cells cs 42 (0, 0)) := fun k cs hk => blkOf h1 hO3 hk (by decide) (by decide)
  refine ⟨X3, rfl, ⟨s3, r3, v3, s', r', X', v', hA3, hR3, hsim3, ?_, h5.only h1 hO3, h6, hb _ _ h7, hb _ _ h8, h9, h10, h11, ?_, h13.trans (h1.below hO3 (Nat.le_refl _) h13.size), h14⟩, hb⟩
  · exact h4.other hO3 (fun e => h10 e.symm) (R_ne h1.row h4.blk (by decide)) (R_ne h4.row h1.blk (by decide)) (fun k hk e => h12 k e.symm hk)
  · intro k hk e
    rcases hS3 with hs | ⟨b, hb1, hb2⟩
    · exact h12 k (hs ▸ hk) e
    · have := h4.rlt k e
      rw [hb1] at hk
      injection hk with hk
      omega
/-- what the fork leaves -/
theorem two_fork (h1 : AI w.heap.size W g v s) (h2 : RV w.heap.size W X r) (h3 : Sim s r) (h8 : W.heap[x]? = some (.cells X 42 (0, 0))) (hx : w.heap.size ≤ x) (hb : Below w.heap.size w W) {n k : Nat} {Z : Array Value} (hn : w.heap.size ≤ n) (hng : g < n) (hnr : ∀ k, v.ownBlock = some k → k < n) (hA : AI n W g' v' s)
    (hz : W.heap[k]? = some (.cells Z 42 (0, 0))) (hk : k ≠ x) (hk2 : w.heap.size ≤ k) : Two w (W.setRow k X) g x g' k X X :=
  ⟨s, r, v, s, r, X, v', rowset h1 hz X, h2.row hz X, h3, rowset (atLower hA hn) hz X, h2.row hz X, h3, setRow_heap _ _ _ _ _ _ hz, blk_row h8 (fun e => hk e.symm) X, h2.sz, (by have := hA.hg; omega), fun e => hk e.symm, fun j hj e => by have := hA.rbase j e; have := hnr j hj; omega, hb.grown (setRow_grown _ _ _) hb.size (fun j e => by injection e with e; omega), hx, hk2⟩
end Go.Proofs.Ytpfikmchimlneaa.Ar
