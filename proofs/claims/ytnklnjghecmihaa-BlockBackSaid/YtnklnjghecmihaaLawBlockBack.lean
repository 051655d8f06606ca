-- written by a program of this session (wip/myprint.py), over the kit's printer and the session's own contracts
import Derived.Test.YtnklnjghecmihaaRows
import Derived.Test.YtnklnjghecmihaaH6x39
import Derived.Test.YtnklnjghecmihaaPureBlockBack
import Derived.Test.YtnklnjghecmihaaH6V0
import Derived.WalkKit
import Derived.ProofKit
import Derived.OpenShut
import Derived.ShutString
import Derived.ChangeOld
import Derived.Below
import Derived.SizedLaws
import Derived.Carry
namespace Go.Proofs.Ytnklnjghecmihaa.blockBack
open Go.ChangeShapes Go.WideShapes Go.ChangeAt Go.RowKit Go.Proofs.Ytnklnjghecmihaa.H6 Go.Proofs.YtnklnjghecmihaaW.PrintWords Go.Proofs.YtnklnjghecmihaaW
open Go.ChangeMaps (open_string shut_string)
set_option linter.unusedVariables false
theorem own : ownKnob Try.prog.godebug = none := by kernel_rfl
theorem laidOut : laidOutB Try.prog = true := by kernel_rfl
theorem opens25 {H : Type} (enc : TypeId × Value → H) (W : World) : OpenKd.Opens enc Try.prog W 25 k25 ok25 :=
  OpenKd.opens_imp (OpenKd.opens_struct (gs := [(9, 1), (9, 1)]) (fun z => (⟨z.1, z.2⟩ : S25)) (fun _ => rfl) Try.underlying25 (by kernel_rfl) (by kernel_rfl) (by kernel_rfl) (OpenKd.opensF_cons (m := 1) (OpenKd.opens_string Try.underlying9) (OpenKd.opensF_one (m := 1) (OpenKd.opens_string Try.underlying9)))) (fun y h => by simpa [ok25] using h)
set_option maxRecDepth 100000 in
theorem lifted (os : Os) (started : os.Started) (H : Type) (enc : TypeId × Value → H) :
    ReturnsInHanded {} Try.checked os 4 .any (Rows.blockBackSpec.pre6 enc Try.prog Try.f4 Rows.blockBackRow.domain false) (Rows.blockBackSpec.post enc Try.prog Try.f4 false true false false) := by
  refine returnsInHanded_of_change_sized (C := Try.checked) own started (by kernel_rfl) Try.func4
    (ChangeSpec.witness6 (enc := enc) (C := Try.checked) false ⟨#[], #[.slice none 0 0, .string ByteArray.empty], []⟩ 8 (by kernel_rfl) (by kernel_rfl) (by kernel_rfl) (by kernel_rfl)) ?_
  intro W base args ds gs before hval0 hW hcnd hsz0 _
  have hsz : (DataW.weightsEach Try.prog (Try.f4.params.toList ++ Rows.blockBackSpec.plain.varTypes Try.prog) (ds ++ gs)).all (· ≤ reachBytes) = true := hsz0
  have hval : ∀ (j : Nat) t v, Try.f4.params[j]? = some t → args[j]? = some v → Value.okWide Try.prog W .any base t v := hval0
  have hW' := hW
  obtain ⟨p, q, hA0, hV, rfl, hfz, hnd⟩ := hW
  have hA : DataW.TrodAll enc Try.prog W 0 (fun _ => true) true Try.f4.params.toList args.toList ds p := hA0
  rw [Try.params4] at hA hval hsz
  obtain ⟨v0, vs0, d0, ds0, p0, q0, hargs, rfl, rfl, h0, r0⟩ := trodAll_cons hA
  obtain ⟨v1, vs1, d1, ds1, p1, q1, rfl, rfl, rfl, h1, r1⟩ := trodAll_cons r0
  obtain ⟨rfl, rfl, rfl⟩ := trodAll_nil r1
  obtain rfl : args = #[v0, v1] := by cases args; simp_all
  obtain ⟨rfl, rfl⟩ := trodVars_none hV
  obtain ⟨y0, hK0, ok_0⟩ := OpenKd.opens_arg (d := (Kd.slice 25 k25)) (ok := (fun xs : List (S25) => xs.length ≤ maxLen ∧ xs.length * 32 ≤ 140737488351232 ∧ ∀ x ∈ xs, ok25 x)) (OpenKd.opens_slice (B := 32) Try.underlying22 (by kernel_rfl) (by kernel_rfl) (opens25 enc W)) hsz (j := 0) rfl rfl h0
  have k0 := h0
  have lt0 : ∀ x ∈ p0, x.block < W.heap.size := by obtain ⟨m, hm⟩ := k0; exact DataW.trod_lt m _ _ _ hm
  obtain ⟨a0, len0, cap0, rfl⟩ := okWide_slice Try.underlying22 (hval 0 22 v0 rfl rfl)
  obtain ⟨rfl, hl0, hC0⟩ := OpenKd.cells_slice hK0
  obtain ⟨y1, hK1, ok_1⟩ := OpenKd.opens_arg (d := Kd.string) (ok := (fun s : ByteArray => s.size ≤ 140737488351232)) (OpenKd.opens_string Try.underlying9) hsz (j := 1) rfl rfl h1
  obtain ⟨a1, rfl, rfl, rfl, y1_⟩ := open_string Try.underlying9 (hval 1 9 v1 rfl rfl) h1
  obtain rfl : a1 = y1 := by simpa [Kd.string, Kd.scalar, Value.cells] using hK1
  clear hA0 hval0 hsz0 hsz
  refine (catchmentlaw10_BlockBack.walk Pure.BlockBack a0 cap0 y0 a1 W hC0 hl0 ok_0 ok_1).mono fun e W' ⟨he, bel⟩ => ?_
  subst he
  exact ⟨_, rfl, _, _, _, [], _, [], hW', trodAll_mk1 (shut_bool Try.underlying4 _), (trodAll_cons_mk (Below.trod laidOut (by kernel_rfl) (of_decide_eq_true (by kernel_rfl)) k0 bel lt0) (trodAll_cons_mk (shut_string Try.underlying9 y1_) trodAll_mk0)), rfl, bel.frame _, fun h => by cases h⟩
theorem over : Rows.blockBackRow.holds Try.pinned (OpenSpec.ofChange Rows.blockBackSpec) :=
  OpenClaim.holds_of_wide 4 Try.f4 rfl rfl rfl rfl rfl rfl rfl ⟨rfl, rfl, rfl, rfl, rfl⟩ rfl rfl rfl rfl rfl (by kernel_rfl) Try.func4 (by kernel_rfl)
    (of_decide_eq_true (by kernel_rfl)) (by unfold Func.isWrapper; first | (rw [if_pos (by decide +kernel)]; kernel_rfl) | (rw [if_neg (by decide +kernel)]; exact ⟨rfl, rfl⟩))
    (fun os started H enc _ => lifted os started H enc)
theorem proved : Rows.BlockBackSaid := over
#print axioms proved
end Go.Proofs.Ytnklnjghecmihaa.blockBack
namespace Go.Proofs.Ytnklnjghecmihaa
/-- The row, under a short name, for the claim. -/
theorem blockBack_holds : Rows.BlockBackSaid := blockBack.proved
end Go.Proofs.Ytnklnjghecmihaa
