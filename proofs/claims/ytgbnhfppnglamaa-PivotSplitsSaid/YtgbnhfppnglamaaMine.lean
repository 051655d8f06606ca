/- Small words that the printed texts of this seat use beside the kit's own: max and min of two strings. No condition. -/
import Derived.Test.YtgbnhfppnglamaaWWords
import Derived.Test.YtgbnhfppnglamaaOrd
import Derived.Test.YtgbnhfppnglamaaWLast
set_option linter.unusedVariables false
set_option linter.unusedSimpArgs false
namespace Go.Proofs.YtgbnhfppnglamaaW.Mine
open Go.RowKit Go.Proofs.YtgbnhfppnglamaaW.Ord
/-- max of two strings -/
def smx (x y : ByteArray) : ByteArray := if Op.bytesLess x.toList y.toList = true then y else x
/-- min of two strings -/
def smn (x y : ByteArray) : ByteArray := if (Op.bytesLess x.toList y.toList || x.toList == y.toList) = true then x else y
theorem max2_str (x y : ByteArray) : Builtin.max2 (.string x) (.string y) = pure (.string (smx x y)) := by
  simp only [Builtin.max2, Op.stringOp, smx]
  show (Sem.bind _ _ : Sem Value) = _
  cases h : Op.bytesLess x.toList y.toList <;> rfl
theorem min2_str (x y : ByteArray) : Builtin.min2 (.string x) (.string y) = pure (.string (smn x y)) := by
  simp only [Builtin.min2, Op.stringOp, smn]
  show (Sem.bind _ _ : Sem Value) = _
  cases h : (Op.bytesLess x.toList y.toList || x.toList == y.toList) <;> rfl
theorem le_bytes (a b : List UInt8) : (Op.bytesLess a b || a == b) = !(Op.bytesLess b a) := by
  rcases L_total a b with h | rfl | h
  · have h2 : Op.bytesLess b a = false := by simpa [L] using L_asymm h
    rw [show Op.bytesLess a b = true from h, h2]
    rfl
  · have h2 : Op.bytesLess a a = false := by simpa [L] using L_irrefl a
    rw [h2]
    simp
  · have h2 : Op.bytesLess a b = false := by simpa [L] using L_asymm h
    rw [show Op.bytesLess b a = true from h, h2]
    have : a ≠ b := by rintro rfl; exact L_irrefl _ h
    simp [this]
theorem binOp_gtr_str (t : TypeId) (a b : ByteArray) : binOp .gtr t (.string a) (.string b) = pure (.bool (Op.bytesLess b.toList a.toList)) := by
  simp [binOp, Op.stringOp, le_bytes]
theorem binOp_geq_str (t : TypeId) (a b : ByteArray) : binOp .geq t (.string a) (.string b) = pure (.bool !(Op.bytesLess a.toList b.toList)) := by
  simp [binOp, Op.stringOp]
theorem binOp_leq_str (t : TypeId) (a b : ByteArray) : binOp .leq t (.string a) (.string b) = pure (.bool !(Op.bytesLess b.toList a.toList)) := by
  simp [binOp, Op.stringOp, le_bytes]
open Go.Proofs.YtgbnhfppnglamaaW.PrintLast in
/-- A call of a function value that is always one function. -/
theorem goesV_ {P : Program} {ops : Array Oper} {Q : Exit → Act → World → Prop} {oi : Oper} {N : Option Tmp} {a : Act} {w : World} {K : Act → World → Prop} {f : FuncId} {fn : Func} {c : Operand} {as : Array Operand} {ts : Array TypeId} (hf : P.funcs[f]? = some fn) (hname : (fn.name == "runtime.NumGoroutine") = false) (hb : fn.body.isSome = true) (args : Array Value)
    (hw : Region.wanted oi (yielded ops a.tmps) = true) (hN : oi.dst = N) (hop : oi.op = .call { callee := .value c, args := as, argTypes := ts }) (hargs : as.map a.eval = args)
    (h : Calls P f args w fun e w' => ∃ v, e = .returned v ∧ K (a.put N v) w') (hc : a.eval c = .func (.func f) #[] #[] := by rfl) : if Region.wanted oi (yielded ops a.tmps) = true then Oper.wp P oi a w K Q else K (a.put N undef) w := by
  refine call_ f args hw hN ?_ h
  have he := enters_ hf hname hb args w
  unfold execOp
  simp [hop, resolve, Deferred.ofValue, invoke, hc, hargs, he]
end Go.Proofs.YtgbnhfppnglamaaW.Mine
