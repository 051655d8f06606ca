-- written by a program of this session (wip/myprint.py), over the kit's printer and the session's own contracts
import Derived.Test.YtnklnjghecmihaaH3x0
namespace Go.Proofs.Ytnklnjghecmihaa.H3
open Go.RowKit Go.Proofs.YtnklnjghecmihaaW.PrintWords Go.Proofs.YtnklnjghecmihaaW.PrintLast Go.Proofs.YtnklnjghecmihaaW.PrintMore Go.Proofs.YtnklnjghecmihaaW.Mine
attribute [local go_sem] max2_int min2_int max_two min_two max_three min_three max_four min_four max2_str min2_str binOp_gtr_str binOp_leq_str binOp_geq_str   -- for this text's walks alone
set_option linter.unusedVariables false
set_option linter.unusedSimpArgs false

/-! ### strings_Builder_String: function 84 -/
def strings_Builder_String_ren : Go.Shelf.Ren := ⟨fun | 169 => 84 | n => n, fun | 70 => 113 | 9 => 9 | 0 => 0 | 72 => 116 | 37 => 114 | 127 => 155 | 3 => 3 | 5 => 5 | n => n, fun | n => n⟩
theorem strings_Builder_String_lays : Go.Proofs.Lays.n169 Try.prog strings_Builder_String_ren := {
  mixed := by kernel_rfl
  f169 := Try.func84.trans (congrArg some (by kernel_rfl))
  t0 := Try.underlying0
  a0 := Try.isAgg0
  z0 := Try.sizeOf0
  v0 := Try.zeroValue0
  t3 := Try.underlying3
  a3 := Try.isAgg3
  z3 := Try.sizeOf3
  v3 := Try.zeroValue3
  t9 := Try.underlying9
  a9 := Try.isAgg9
  z9 := Try.sizeOf9
  v9 := Try.zeroValue9
  t37 := Try.underlying114
  a37 := Try.isAgg114
  z37 := Try.sizeOf114
  v37 := Try.zeroValue114
  t70 := Try.underlying113
  a70 := Try.isAgg113
  z70 := Try.sizeOf113
  v70 := Try.zeroValue113
  t72 := Try.underlying116
  a72 := Try.isAgg116
  z72 := Try.sizeOf116
  v72 := Try.zeroValue116
  t127 := Try.underlying155
  a127 := Try.isAgg155
  z127 := Try.sizeOf155
  v127 := Try.zeroValue155 }
theorem strings_Builder_String_extra : Builder.Extra Try.prog strings_Builder_String_ren := {
  sizeBuilder := by kernel_rfl
  liesBuilder := by kernel_rfl
  t5 := Try.underlying5
  a5 := Try.isAgg5
  z5 := Try.sizeOf5
  v5 := Try.zeroValue5
  infoByte := by kernel_rfl
  cellsByte := by kernel_rfl
  sizeByte := by kernel_rfl
  neB5 := by decide }
theorem strings_Builder_String_c (B b : Nat) (l : List UInt8) (w : World) (h : Lib.IsBuilder 116 5 B b (Lib.byteCells l) w) (hBw : B ≤ w.heap.size) :
    Calls Try.prog 84 #[.pointer (some ⟨b, 0, none⟩)] w fun e w' => e = .returned (.string ⟨l.toArray⟩) ∧ Below B w w' := Any.Builder_String_any strings_Builder_String_lays strings_Builder_String_extra B b l w h hBw

end Go.Proofs.Ytnklnjghecmihaa.H3
