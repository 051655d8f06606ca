-- written by a program of this session (wip/myprint.py), over the kit's printer and the session's own contracts
import Derived.Test.YtnklnjghecmihaaRows
import Derived.Test.YtnklnjghecmihaaL2x48
import Derived.Test.YtnklnjghecmihaaPureBufferAdds
import Derived.Test.YtnklnjghecmihaaOpen
import Derived.WalkKit
import Derived.ProofKit
import Derived.OpenShut
import Derived.ShutString
import Derived.ChangeOld
import Derived.Below
import Derived.SizedLaws
import Derived.Carry
namespace Go.Proofs.Ytnklnjghecmihaa.bufferAdds
open Go.ChangeShapes Go.WideShapes Go.ChangeAt Go.RowKit Go.Proofs.Ytnklnjghecmihaa.L2 Go.Proofs.YtnklnjghecmihaaW.PrintWords Go.Proofs.YtnklnjghecmihaaW
open Go.ChangeMaps (open_string shut_string)
set_option linter.unusedVariables false
theorem own : ownKnob Try.prog.godebug = none := by kernel_rfl
theorem laidOut : laidOutB Try.prog = true := by kernel_rfl
theorem opens46 {H : Type} (enc : TypeId × Value → H) (W : World) : OpenKd.Opens enc Try.prog W 46 k46 ok46 :=
  OpenKd.opens_imp (OpenKd.opens_struct (gs := [(43, 1), (3, 1), (9, 1), (9, 1), (9, 1), (44, 1)]) (fun z => (⟨z.1, z.2.1, z.2.2.1, z.2.2.2.1, z.2.2.2.2.1, z.2.2.2.2.2⟩ : S46)) (fun _ => rfl) Try.underlying46 (by kernel_rfl) (by kernel_rfl) (by kernel_rfl) (OpenKd.opensF_cons (m := 1) (OpenKd.opens_int Try.underlying43) (OpenKd.opensF_cons (m := 1) (OpenKd.opens_int Try.underlying3) (OpenKd.opensF_cons (m := 1) (OpenKd.opens_string Try.underlying9) (OpenKd.opensF_cons (m := 1) (OpenKd.opens_string Try.underlying9) (OpenKd.opensF_cons (m := 1) (OpenKd.opens_string Try.underlying9) (OpenKd.opensF_one (m := 1) (OpenKd.opens_int Try.underlying44)))))))) (fun y h => by simpa [ok46] using h)
set_option maxRecDepth 100000 in
theorem lifted (os : Os) (started : os.Started) (H : Type) (enc : TypeId × Value → H) :
    ReturnsInHanded {} Try.checked os 6 .any (Rows.bufferAddsSpec.pre6 enc Try.prog Try.f6 Rows.bufferAddsRow.domain false) (Rows.bufferAddsSpec.post enc Try.prog Try.f6 false true false false) := by
  refine returnsInHanded_of_change_sized (C := Try.checked) own started (by kernel_rfl) Try.func6
    (ChangeSpec.witness6 (enc := enc) (C := Try.checked) false ⟨#[], #[.slice none 0 0, .slice none 0 0], []⟩ 8 (by kernel_rfl) (by kernel_rfl) (by kernel_rfl) (by kernel_rfl)) ?_
  intro W base args ds gs before hval0 hW hcnd hsz0 _
  have hsz : (DataW.weightsEach Try.prog (Try.f6.params.toList ++ Rows.bufferAddsSpec.plain.varTypes Try.prog) (ds ++ gs)).all (· ≤ reachBytes) = true := hsz0
  have hval : ∀ (j : Nat) t v, Try.f6.params[j]? = some t → args[j]? = some v → Value.okWide Try.prog W .any base t v := hval0
  have hW' := hW
  obtain ⟨p, q, hA0, hV, rfl, hfz, hnd⟩ := hW
  have hA : DataW.TrodAll enc Try.prog W 0 (fun _ => true) true Try.f6.params.toList args.toList ds p := hA0
  rw [Try.params6] at hA hval hsz
  obtain ⟨v0, vs0, d0, ds0, p0, q0, hargs, rfl, rfl, h0, r0⟩ := trodAll_cons hA
  obtain ⟨v1, vs1, d1, ds1, p1, q1, rfl, rfl, rfl, h1, r1⟩ := trodAll_cons r0
  obtain ⟨rfl, rfl, rfl⟩ := trodAll_nil r1
  obtain rfl : args = #[v0, v1] := by cases args; simp_all
  obtain ⟨rfl, rfl⟩ := trodVars_none hV
  obtain ⟨y0, hK0, ok_0⟩ := OpenKd.opens_arg (d := (Kd.slice 46 k46)) (ok := (fun xs : List (S46) => xs.length ≤ maxLen ∧ xs.length * 72 ≤ 140737488351232 ∧ ∀ x ∈ xs, ok46 x)) (OpenKd.opens_slice (B := 72) Try.underlying36 (by kernel_rfl) (by kernel_rfl) (opens46 enc W)) hsz (j := 0) rfl rfl h0
  have k0 := h0
  have lt0 : ∀ x ∈ p0, x.block < W.heap.size := by obtain ⟨m, hm⟩ := k0; exact DataW.trod_lt m _ _ _ hm
  obtain ⟨a0, len0, cap0, rfl⟩ := okWide_slice Try.underlying36 (hval 0 36 v0 rfl rfl)
  obtain ⟨rfl, hl0, hC0⟩ := OpenKd.cells_slice hK0
  obtain ⟨y1, hK1, ok_1⟩ := OpenKd.opens_arg (d := (Kd.slice 46 k46)) (ok := (fun xs : List (S46) => xs.length ≤ maxLen ∧ xs.length * 72 ≤ 140737488351232 ∧ ∀ x ∈ xs, ok46 x)) (OpenKd.opens_slice (B := 72) Try.underlying36 (by kernel_rfl) (by kernel_rfl) (opens46 enc W)) hsz (j := 1) rfl rfl h1
  have k1 := h1
  have lt1 : ∀ x ∈ p1, x.block < W.heap.size := by obtain ⟨m, hm⟩ := k1; exact DataW.trod_lt m _ _ _ hm
  obtain ⟨a1, len1, cap1, rfl⟩ := okWide_slice Try.underlying36 (hval 1 36 v1 rfl rfl)
  obtain ⟨rfl, hl1, hC1⟩ := OpenKd.cells_slice hK1
  clear hA0 hval0 hsz0 hsz
  refine (catchmentlaw12_BufferAdds.walk Pure.BufferAdds a0 cap0 y0 a1 cap1 y1 W hC0 hl0 hC1 hl1 ok_0 ok_1).mono fun e W' ⟨he, bel⟩ => ?_
  subst he
  exact ⟨_, rfl, _, _, _, [], _, [], hW', trodAll_mk1 (shut_bool Try.underlying4 _), (trodAll_cons_mk (Below.trod laidOut (by kernel_rfl) (of_decide_eq_true (by kernel_rfl)) k0 bel lt0) (trodAll_cons_mk (Below.trod laidOut (by kernel_rfl) (of_decide_eq_true (by kernel_rfl)) k1 bel lt1) trodAll_mk0)), rfl, bel.frame _, fun h => by cases h⟩
theorem over : Rows.bufferAddsRow.holds Try.pinned (OpenSpec.ofChange Rows.bufferAddsSpec) :=
  OpenClaim.holds_of_wide 6 Try.f6 rfl rfl rfl rfl rfl rfl rfl ⟨rfl, rfl, rfl, rfl, rfl⟩ rfl rfl rfl rfl rfl (by kernel_rfl) Try.func6 (by kernel_rfl)
    (of_decide_eq_true (by kernel_rfl)) (by unfold Func.isWrapper; first | (rw [if_pos (by decide +kernel)]; kernel_rfl) | (rw [if_neg (by decide +kernel)]; exact ⟨rfl, rfl⟩))
    (fun os started H enc _ => lifted os started H enc)
theorem proved : Rows.BufferAddsSaid := over
#print axioms proved
end Go.Proofs.Ytnklnjghecmihaa.bufferAdds
namespace Go.Proofs.Ytnklnjghecmihaa
/-- The row, under a short name, for the claim. -/
theorem bufferAdds_holds : Rows.BufferAddsSaid := bufferAdds.proved
end Go.Proofs.Ytnklnjghecmihaa
