/- Small words that the printed texts of this seat use beside the kit's own: max and min of two strings. No condition. -/
import Derived.Test.YtpfikmchimlneaaWWords
import Derived.Test.YtpfikmchimlneaaOrd
import Derived.Test.YtpfikmchimlneaaWLast
import Derived.Test.YtpfikmchimlneaaWTab
set_option linter.unusedVariables false
set_option linter.unusedSimpArgs false
namespace Go.Proofs.YtpfikmchimlneaaW.Mine
open Go.RowKit Go.Proofs.YtpfikmchimlneaaW.Ord
/-- max of two strings -/
def smx (x y : ByteArray) : ByteArray := if Op.bytesLess x.toList y.toList = true then y else x
/-- min of two strings -/
def smn (x y : ByteArray) : ByteArray := if (Op.bytesLess x.toList y.toList || x.toList == y.toList) = true then x else y
theorem max2_str (x y : ByteArray) : Builtin.max2 (.string x) (.string y) = pure (.string (smx x y)) := by
  simp only [Builtin.max2, Op.stringOp, smx]
  show (Sem.bind _ _ : Sem Value) = _
  cases h : Op.bytesLess x.toList y.toList <;> rfl
theorem min2_str (x y : ByteArray) : Builtin.min2 (.string x) (.string y) = pure (.string (smn x y)) := by
  simp only [Builtin.min2, Op.stringOp, smn]
  show (Sem.bind _ _ : Sem Value) = _
  cases h : (Op.bytesLess x.toList y.toList || x.toList == y.toList) <;> rfl
theorem le_bytes (a b : List UInt8) : (Op.bytesLess a b || a == b) = !(Op.bytesLess b a) := by
  rcases L_total a b with h | rfl | h
  · have h2 : Op.bytesLess b a = false := by simpa [L] using L_asymm h
    rw [show Op.bytesLess a b = true from h, h2]
    rfl
  · have h2 : Op.bytesLess a a = false := by simpa [L] using L_irrefl a
    rw [h2]
    simp
  · have h2 : Op.bytesLess a b = false := by simpa [L] using L_asymm h
    rw [show Op.bytesLess b a = true from h, h2]
    have : a ≠ b := by rintro rfl; exact L_irrefl _ h
    simp [this]
theorem binOp_gtr_str (t : TypeId) (a b : ByteArray) : binOp .gtr t (.string a) (.string b) = pure (.bool (Op.bytesLess b.toList a.toList)) := by
  simp [binOp, Op.stringOp, le_bytes]
theorem binOp_geq_str (t : TypeId) (a b : ByteArray) : binOp .geq t (.string a) (.string b) = pure (.bool !(Op.bytesLess a.toList b.toList)) := by
  simp [binOp, Op.stringOp]
theorem binOp_leq_str (t : TypeId) (a b : ByteArray) : binOp .leq t (.string a) (.string b) = pure (.bool !(Op.bytesLess b.toList a.toList)) := by
  simp [binOp, Op.stringOp, le_bytes]
open Go.Proofs.YtpfikmchimlneaaW.PrintLast in
/-- A call of a function value that is always one function. -/
theorem goesV_ {P : Program} {ops : Array Oper} {Q : Exit → Act → World → Prop} {oi : Oper} {N : Option Tmp} {a : Act} {w : World} {K : Act → World → Prop} {f : FuncId} {fn : Func} {c : Operand} {as : Array Operand} {ts : Array TypeId} (hf : P.funcs[f]? = some fn) (hname : (fn.name == "runtime.NumGoroutine") = false) (hb : fn.body.isSome = true) (args : Array Value)
    (hw : Region.wanted oi (yielded ops a.tmps) = true) (hN : oi.dst = N) (hop : oi.op = .call { callee := .value c, args := as, argTypes := ts }) (hargs : as.map a.eval = args)
    (h : Calls P f args w fun e w' => ∃ v, e = .returned v ∧ K (a.put N v) w') (hc : a.eval c = .func (.func f) #[] #[] := by rfl) : if Region.wanted oi (yielded ops a.tmps) = true then Oper.wp P oi a w K Q else K (a.put N undef) w := by
  refine call_ f args hw hN ?_ h
  have he := enters_ hf hname hb args w
  unfold execOp
  simp [hop, resolve, Deferred.ofValue, invoke, hc, hargs, he]
section
open Go.Proofs.YtpfikmchimlneaaW.PrintLast
variable {P : Program} {ops : Array Oper} {Q : Exit → Act → World → Prop} {md : Region.Mode} {S : World → Prop} {ds : List Nat} {T : Bool × List (List Nat × List Nat)} {i : Nat} {N : Option Tmp} {oi : Oper} {v : Value} {fuel : Nat} {l : Array Bool} {a : Act} {w : World}
/-- Steps of a region, in few words: an operation that yields in whatever world; one that is not wanted; one that reads what is held. -/
theorem pu_ (hT : rtab md ops = T) (hi : ops[i]? = some oi) (hN : oi.dst = N) (hy : Yields P ops oi v a) {a' : Act} (ha : a.put N v = a') (h : wpAnyLast P md ops Q S ds fuel (l.setIfInBounds i true) a' w)
    (hc : anyT T l.toList (l.setIfInBounds i true).toList i = true := by kernel_rfl) (hQ : ∀ c a w, Q (.panic c) (a.put oi.dst v) w → Q (.panic c) a w := by intros; assumption) : wpAnyLast P md ops Q S ds (fuel + 1) l a w :=
  pure_ (l.setIfInBounds i true) hi hN (any_of hT hc) hQ hy ha h
theorem ta_ {B : List Nat} (hT : rtab md ops = T) (hB : waitsOk T.2 B = true) (hi : ops[i]? = some oi) (hN : oi.dst = N) (hy : YieldsIf P ops S oi v a) (hS : S w) {a' : Act} (ha : a.put N v = a') (h : wpAnyLast P md ops Q S ds fuel (l.setIfInBounds i true) a' w)
    (hc : takeW T B ds l.toList (l.setIfInBounds i true).toList i = true := by kernel_rfl) (hQ : ∀ c a w, Q (.panic c) (a.put oi.dst v) w → Q (.panic c) a w := by intros; assumption) : wpAnyLast P md ops Q S ds (fuel + 1) l a w :=
  take_ (l.setIfInBounds i true) hi hN (take_ofW hT hB hc) hQ hy hS ha h
theorem puA_ (l' : Array Bool) (hT : rtab md ops = T) (hi : ops[i]? = some oi) (hN : oi.dst = N) (hy : Yields P ops oi v a) {a' : Act} (ha : a.put N v = a') (h : wpAnyLast P md ops Q S ds fuel l' a' w)
    (hc : anyT T l.toList l'.toList i = true := by kernel_rfl) (hQ : ∀ c a w, Q (.panic c) (a.put oi.dst v) w → Q (.panic c) a w := by intros; assumption) : wpAnyLast P md ops Q S ds (fuel + 1) l a w :=
  pure_ l' hi hN (any_of hT hc) hQ hy ha h
theorem taA_ {B : List Nat} (l' : Array Bool) (hT : rtab md ops = T) (hB : waitsOk T.2 B = true) (hi : ops[i]? = some oi) (hN : oi.dst = N) (hy : YieldsIf P ops S oi v a) (hS : S w) {a' : Act} (ha : a.put N v = a') (h : wpAnyLast P md ops Q S ds fuel l' a' w)
    (hc : takeW T B ds l.toList l'.toList i = true := by kernel_rfl) (hQ : ∀ c a w, Q (.panic c) (a.put oi.dst v) w → Q (.panic c) a w := by intros; assumption) : wpAnyLast P md ops Q S ds (fuel + 1) l a w :=
  take_ l' hi hN (take_ofW hT hB hc) hQ hy hS ha h
theorem pt_ (L : List Value) (D : List Deferred) (n : Tmp) (v : Value) : Act.put { tmps := L.toArray, defers := D } (some n) v = { tmps := (L.set n v).toArray, defers := D } := by simp [Act.put]
theorem pn_ (a : Act) (v : Value) : Act.put a none v = a := rfl
theorem sz_ (x v : Value) (L : List Value) : (x :: L).set 0 v = v :: L := rfl
theorem ss_ (x v : Value) (L : List Value) (n : Nat) : (x :: L).set (n + 1) v = x :: L.set n v := rfl
/-- The same steps, shorter still: what is shown at each is shown by itself. -/
theorem pv_ (i n : Nat) (hT : rtab md ops = T) {a' : Act} (h : wpAnyLast P md ops Q S ds fuel (l.setIfInBounds i true) a' w)
    (hi : ops[i]? = some oi := by rfl) (hN : oi.dst = some n := by rfl) (hw : Region.wanted oi (yielded ops a.tmps) = true := by rfl) (hy : ∀ w, (execOp a.eval oi).run P w = .ok (.value v) w := by (intro w'; go_simp; with_reducible rfl)) (ha : a.put (some n) v = a' := by (simp only [pt_, pn_, sz_, ss_, i64_w, i32_w]; rfl))
    (hc : anyT T l.toList (l.setIfInBounds i true).toList i = true := by kernel_rfl) (hQ : ∀ c a w, Q (.panic c) (a.put oi.dst v) w → Q (.panic c) a w := by intros; assumption) : wpAnyLast P md ops Q S ds (fuel + 1) l a w :=
  pu_ hT hi hN (.inl ⟨hw, hy⟩) ha h hc hQ
theorem pvA_ (i n : Nat) (l' : Array Bool) (hT : rtab md ops = T) {a' : Act} (h : wpAnyLast P md ops Q S ds fuel l' a' w)
    (hi : ops[i]? = some oi := by rfl) (hN : oi.dst = some n := by rfl) (hw : Region.wanted oi (yielded ops a.tmps) = true := by rfl) (hy : ∀ w, (execOp a.eval oi).run P w = .ok (.value v) w := by (intro w'; go_simp; with_reducible rfl)) (ha : a.put (some n) v = a' := by (simp only [pt_, pn_, sz_, ss_, i64_w, i32_w]; rfl))
    (hc : anyT T l.toList l'.toList i = true := by kernel_rfl) (hQ : ∀ c a w, Q (.panic c) (a.put oi.dst v) w → Q (.panic c) a w := by intros; assumption) : wpAnyLast P md ops Q S ds (fuel + 1) l a w :=
  puA_ l' hT hi hN (.inl ⟨hw, hy⟩) ha h hc hQ
theorem pw_ (i n : Nat) (hT : rtab md ops = T) {a' : Act} (h : wpAnyLast P md ops Q S ds fuel (l.setIfInBounds i true) a' w)
    (hi : ops[i]? = some oi := by rfl) (hN : oi.dst = some n := by rfl) (hw : Region.wanted oi (yielded ops a.tmps) = false := by rfl) (ha : a.put (some n) undef = a' := by (simp only [pt_, pn_, sz_, ss_, i64_w, i32_w]; rfl))
    (hc : anyT T l.toList (l.setIfInBounds i true).toList i = true := by kernel_rfl) (hQ : ∀ c a w, Q (.panic c) (a.put oi.dst undef) w → Q (.panic c) a w := by intros; assumption) : wpAnyLast P md ops Q S ds (fuel + 1) l a w :=
  pu_ hT hi hN (.inr ⟨hw, rfl⟩) ha h hc hQ
theorem tv_ (i n : Nat) {B : List Nat} (hT : rtab md ops = T) (hB : waitsOk T.2 B = true) (hi : ops[i]? = some oi) (hS : S w) (hy : ∀ w, S w → (execOp a.eval oi).run P w = .ok (.value v) w) {a' : Act} (h : wpAnyLast P md ops Q S ds fuel (l.setIfInBounds i true) a' w)
    (hN : oi.dst = some n := by rfl) (hw : Region.wanted oi (yielded ops a.tmps) = true := by rfl) (ha : a.put (some n) v = a' := by (simp only [pt_, pn_, sz_, ss_, i64_w, i32_w]; rfl))
    (hc : takeW T B ds l.toList (l.setIfInBounds i true).toList i = true := by kernel_rfl) (hQ : ∀ c a w, Q (.panic c) (a.put oi.dst v) w → Q (.panic c) a w := by intros; assumption) : wpAnyLast P md ops Q S ds (fuel + 1) l a w :=
  ta_ hT hB hi hN (.inl ⟨hw, hy⟩) hS ha h hc hQ
end
/-- A cell that is kept. -/
theorem c1_ {w W : World} {p : Addr} {v : Value} (h : Go.Proofs.YtpfikmchimlneaaW.PrintWords.Aside0 (Below w.heap.size w W)) (x : w.cell? p = some v) : W.cell? p = some v := (h.out.cell (World.block_lt_of_cell? w _ x)).trans x
theorem nb_ {w : World} {p : Addr} {v : Value} {g : Nat} (x : w.cell? p = some v) (h : Go.Proofs.YtpfikmchimlneaaW.PrintWords.Aside0 (w.heap.size ≤ g)) : p.block ≠ g := Nat.ne_of_lt (Nat.lt_of_lt_of_le (World.block_lt_of_cell? w _ x) h.out)
/-- A cell of a block that is known. -/
theorem b_ {w : World} {g : Nat} {cs : Array Value} {t : TypeId} (h : Go.Proofs.YtpfikmchimlneaaW.PrintWords.Aside0 (w.heap[g]? = some (.cells cs t (0, 0)))) (i : Nat) : w.cell? ⟨g, i, none⟩ = cs[i]? := Go.Proofs.YtpfikmchimlneaaW.PrintWords.blk_cell h.out i
/-- A block of 1 cells: what they say, and that they are not frozen. -/
theorem bf1_ {w : World} {n : Nat} {a : Value} {t : TypeId} (h : Go.Proofs.YtpfikmchimlneaaW.PrintWords.Aside0 (w.heap[n]? = some (.cells #[a] t (0, 0)))) : w.cell? ⟨n, 0, none⟩ = some a ∧ w.frozen? ⟨n, 0, none⟩ = false :=
  ⟨b_ h 0, Go.Proofs.YtpfikmchimlneaaW.PrintWords.blk_frozen h.out 0⟩
/-- A block of 2 cells: what they say, and that they are not frozen. -/
theorem bf2_ {w : World} {n : Nat} {a b : Value} {t : TypeId} (h : Go.Proofs.YtpfikmchimlneaaW.PrintWords.Aside0 (w.heap[n]? = some (.cells #[a, b] t (0, 0)))) : w.cell? ⟨n, 0, none⟩ = some a ∧ w.cell? ⟨n, 1, none⟩ = some b ∧ w.frozen? ⟨n, 0, none⟩ = false ∧ w.frozen? ⟨n, 1, none⟩ = false :=
  ⟨b_ h 0, b_ h 1, Go.Proofs.YtpfikmchimlneaaW.PrintWords.blk_frozen h.out 0, Go.Proofs.YtpfikmchimlneaaW.PrintWords.blk_frozen h.out 1⟩
/-- A block of 6 cells: what they say, and that they are not frozen. -/
theorem bf6_ {w : World} {n : Nat} {a b c d e f : Value} {t : TypeId} (h : Go.Proofs.YtpfikmchimlneaaW.PrintWords.Aside0 (w.heap[n]? = some (.cells #[a, b, c, d, e, f] t (0, 0)))) : w.cell? ⟨n, 0, none⟩ = some a ∧ w.cell? ⟨n, 1, none⟩ = some b ∧ w.cell? ⟨n, 2, none⟩ = some c ∧ w.cell? ⟨n, 3, none⟩ = some d ∧ w.cell? ⟨n, 4, none⟩ = some e ∧ w.cell? ⟨n, 5, none⟩ = some f ∧ w.frozen? ⟨n, 0, none⟩ = false ∧ w.frozen? ⟨n, 1, none⟩ = false ∧ w.frozen? ⟨n, 2, none⟩ = false ∧ w.frozen? ⟨n, 3, none⟩ = false ∧ w.frozen? ⟨n, 4, none⟩ = false ∧ w.frozen? ⟨n, 5, none⟩ = false :=
  ⟨b_ h 0, b_ h 1, b_ h 2, b_ h 3, b_ h 4, b_ h 5, Go.Proofs.YtpfikmchimlneaaW.PrintWords.blk_frozen h.out 0, Go.Proofs.YtpfikmchimlneaaW.PrintWords.blk_frozen h.out 1, Go.Proofs.YtpfikmchimlneaaW.PrintWords.blk_frozen h.out 2, Go.Proofs.YtpfikmchimlneaaW.PrintWords.blk_frozen h.out 3, Go.Proofs.YtpfikmchimlneaaW.PrintWords.blk_frozen h.out 4, Go.Proofs.YtpfikmchimlneaaW.PrintWords.blk_frozen h.out 5⟩
/-- A new block lies behind all that was. -/
theorem hs_ {w W : World} {g : Nat} (hg : g = W.heap.size) (h : Below w.heap.size w W) : w.heap.size ≤ g := by rw [hg]; exact Go.Proofs.YtpfikmchimlneaaW.PrintWords.below_size h
/-- A block that is known is not the new one. -/
theorem nl_ {W : World} {g g' : Nat} {o : Obj} (hg : g' = W.heap.size) (h : W.heap[g]? = some o) : g ≠ g' := by rw [hg]; exact Nat.ne_of_lt (Go.Proofs.YtpfikmchimlneaaW.PrintWords.blk_lt h)
theorem ng_ {W : World} {g g' : Nat} {o : Obj} (hg : g' = W.heap.size) (h : W.heap[g]? = some o) : g' ≠ g := by rw [hg]; exact Nat.ne_of_gt (Go.Proofs.YtpfikmchimlneaaW.PrintWords.blk_lt h)
/-- Short names, for texts that say them often. -/
theorem z1_ {w : World} {g : Nat} {o : Obj} (h : w.heap[g]? = some o) (n : Nat) : (w.drewN n).heap[g]? = some o := Go.Proofs.YtpfikmchimlneaaW.PrintWords.blk_drewN h n
theorem z2_ {w : World} {g : Nat} {o : Obj} (h : w.heap[g]? = some o) : w.drew.heap[g]? = some o := h
theorem z3_ {w : World} {g : Nat} {o : Obj} (h : w.heap[g]? = some o) (o' : Obj) : (w.alloc o').heap[g]? = some o := Go.Proofs.YtpfikmchimlneaaW.PrintWords.blk_alloc h o'
theorem z4_ {w : World} {g : Nat} {t : TypeId} {cs : Array Value} (h : w.heap[g]? = some (.cells cs t (0, 0))) {p : Addr} (hp : g ≠ p.block) (u : Value) : (w.setCell p u).heap[g]? = some (.cells cs t (0, 0)) := Go.Proofs.YtpfikmchimlneaaW.PrintWords.blk_far h hp u
theorem y1_ {w W : World} (h : Below w.heap.size w W) (o : Obj) : Below w.heap.size w (W.alloc o) := Go.Proofs.YtpfikmchimlneaaW.PrintWords.below_alloc h o
theorem y2_ {B : Nat} {w W : World} (h : Below B w W) (n : Nat) : Below B w (W.drewN n) := Go.Proofs.YtpfikmchimlneaaW.PrintWords.pw_below_drewN h n
theorem y3_ {base : Nat} {w W : World} (h : Below base w W) : Below base w W.drew := h.drew
theorem y4_ {w W : World} {g j : Nat} {v : Value} (h : Below w.heap.size w W) (hg : w.heap.size ≤ g) : Below w.heap.size w (W.setCell ⟨g, j, none⟩ v) := h.setCell hg _
end Go.Proofs.YtpfikmchimlneaaW.Mine
