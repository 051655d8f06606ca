-- written by a program of this session (wip/myprint.py), over the kit's printer and the session's own contracts
import Derived.Test.YtgbnhfppnglamaaQ3x0
namespace Go.Proofs.Ytgbnhfppnglamaa.Q3
open Go.RowKit Go.Proofs.YtgbnhfppnglamaaW.PrintWords Go.Proofs.YtgbnhfppnglamaaW.PrintLast Go.Proofs.YtgbnhfppnglamaaW.PrintMore Go.Proofs.YtgbnhfppnglamaaW.Mine
attribute [local go_sem] max2_int min2_int max_two min_two max_three min_three max_four min_four max2_str min2_str binOp_gtr_str binOp_leq_str binOp_geq_str   -- for this text's walks alone
set_option linter.unusedVariables false
set_option linter.unusedSimpArgs false

/-! ### catchmentref02_Meet: function 84 -/
def catchmentref02_Meet.ahd (a e : List UInt8) : Bool := e.isEmpty || Op.bytesLess a e
def catchmentref02_Meet.bef (a b : List UInt8) : Bool := !a.isEmpty && (b.isEmpty || Op.bytesLess a b)
def catchmentref02_Meet.f (a0_0 : ByteArray) (a0_1 : ByteArray) (a1_0 : ByteArray) (a1_1 : ByteArray) : Option (ByteArray × ByteArray × Bool) :=
  if catchmentref02_Meet.ahd a0_0.toList a0_1.toList = true ∧ catchmentref02_Meet.ahd a1_0.toList a1_1.toList = true ∧ catchmentref02_Meet.ahd (smx a0_0 a1_0).toList (if catchmentref02_Meet.bef a1_1.toList a0_1.toList = true then a1_1 else a0_1).toList = true then
    some (smx a0_0 a1_0, (if catchmentref02_Meet.bef a1_1.toList a0_1.toList = true then a1_1 else a0_1), true) else some (⟨#[]⟩, ⟨#[]⟩, false)
set_option maxHeartbeats 8000000 in
set_option maxRecDepth 100000 in
theorem catchmentref02_Meet.calls (a0_0 : ByteArray) (a0_1 : ByteArray) (a1_0 : ByteArray) (a1_1 : ByteArray) (r1 : ByteArray) (r2 : ByteArray) (r3 : Bool) (w : World) (h : catchmentref02_Meet.f a0_0 a0_1 a1_0 a1_1 = some (r1, r2, r3)) :
    Calls Try.prog 84 #[.agg #[.string a0_0, .string a0_1], .agg #[.string a1_0, .string a1_1]] w fun e w' => e = .returned (.tuple #[.agg #[.string r1, .string r2], .bool r3]) ∧ Below w.heap.size w w' := by
  have H := Aside0.mk h
  clear h
  go_enter Try.func84, Try.ntmps84
  go_wp2
  all_goals
    have h := H.out
    clear H
    refine bodyPost_ret (v := .tuple #[.agg #[.string r1, .string r2], .bool r3]) ?_ rfl ⟨rfl, by repeat (first | exact Below.refl _ _ | apply below_alloc | refine below_set ?_ (by simp))⟩
    first | (simp_all [results, Try.results84, go_sem, catchmentref02_Meet.f, catchmentref02_Meet.ahd, catchmentref02_Meet.bef, smx]; done) | (simp_all [results, Try.results84, go_sem, catchmentref02_Meet.f, catchmentref02_Meet.ahd, catchmentref02_Meet.bef, smx]; exact h.1.symm.trans h.2.1)

end Go.Proofs.Ytgbnhfppnglamaa.Q3
