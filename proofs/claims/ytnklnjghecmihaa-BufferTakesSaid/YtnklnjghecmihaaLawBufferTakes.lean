-- written by a program of this session (wip/myprint.py), over the kit's printer and the session's own contracts
import Derived.Test.YtnklnjghecmihaaRows
import Derived.Test.YtnklnjghecmihaaL2x55
import Derived.Test.YtnklnjghecmihaaPureBufferTakes
import Derived.Test.YtnklnjghecmihaaL2V0
import Derived.WalkKit
import Derived.ProofKit
import Derived.OpenShut
import Derived.ShutString
import Derived.ChangeOld
import Derived.Below
import Derived.SizedLaws
import Derived.Carry
namespace Go.Proofs.Ytnklnjghecmihaa.bufferTakes
open Go.ChangeShapes Go.WideShapes Go.ChangeAt Go.RowKit Go.Proofs.Ytnklnjghecmihaa.L2 Go.Proofs.YtnklnjghecmihaaW.aQ Go.Proofs.YtnklnjghecmihaaW
open Go.ChangeMaps (open_string shut_string)
set_option linter.unusedVariables false
theorem own : ownKnob Try.prog.godebug = none := by kernel_rfl
theorem laidOut : laidOutB Try.prog = true := by kernel_rfl
theorem opens46 {H : Type} (enc : TypeId × Value → H) (W : World) : OpenKd.Opens enc Try.prog W 46 k46 ok46 :=
  OpenKd.VO (OpenKd.Nl (gs := [(43, 1), (3, 1), (9, 1), (9, 1), (9, 1), (44, 1)]) (fun z => (⟨z.1, z.2.1, z.2.2.1, z.2.2.2.1, z.2.2.2.2.1, z.2.2.2.2.2⟩ : bC)) (fun _ => rfl) Try.underlying46 (by kernel_rfl) (by kernel_rfl) (by kernel_rfl) (OpenKd.vH (m := 1) (OpenKd.Pv Try.underlying43) (OpenKd.vH (m := 1) (OpenKd.Pv Try.underlying3) (OpenKd.vH (m := 1) (OpenKd.vT Try.underlying9) (OpenKd.vH (m := 1) (OpenKd.vT Try.underlying9) (OpenKd.vH (m := 1) (OpenKd.vT Try.underlying9) (OpenKd.Tz (m := 1) (OpenKd.Pv Try.underlying44)))))))) (fun y h => by simpa [ok46] using h)
theorem opens48 {H : Type} (enc : TypeId × Value → H) (W : World) : OpenKd.Opens enc Try.prog W 48 k48 ok48 :=
  OpenKd.VO (OpenKd.Nl (gs := [(9, 1), (9, 1)]) (fun z => (⟨z.1, z.2⟩ : S48)) (fun _ => rfl) Try.underlying48 (by kernel_rfl) (by kernel_rfl) (by kernel_rfl) (OpenKd.vH (m := 1) (OpenKd.vT Try.underlying9) (OpenKd.Tz (m := 1) (OpenKd.vT Try.underlying9)))) (fun y h => by simpa [ok48] using h)
set_option maxRecDepth 100000 in
theorem lifted (os : Os) (started : os.Started) (H : Type) (enc : TypeId × Value → H) :
    ReturnsInHanded {} Try.checked os 7 .any (Rows.bufferTakesSpec.pre6 enc Try.prog Try.f7 Rows.bufferTakesRow.domain false) (Rows.bufferTakesSpec.post enc Try.prog Try.f7 false true false false) := by
  refine returnsInHanded_of_change_sized (C := Try.checked) own started (by kernel_rfl) Try.func7
    (ChangeSpec.witness6 (enc := enc) (C := Try.checked) false ⟨#[], #[.slice none 0 0, .agg #[.string ByteArray.empty, .string ByteArray.empty]], []⟩ 8 (by kernel_rfl) (by kernel_rfl) (by kernel_rfl) (by kernel_rfl)) ?_
  intro W base args ds gs before hval0 hW hcnd hsz0 _
  have hsz : (DataW.weightsEach Try.prog (Try.f7.params.toList ++ Rows.bufferTakesSpec.plain.varTypes Try.prog) (ds ++ gs)).all (· ≤ reachBytes) = true := hsz0
  have hval : ∀ (j : Nat) t v, Try.f7.params[j]? = some t → args[j]? = some v → Value.okWide Try.prog W .any base t v := hval0
  have hW' := hW
  obtain ⟨p, q, hA0, hV, rfl, hfz, hnd⟩ := hW
  have hA : DataW.TrodAll enc Try.prog W 0 (fun _ => true) true Try.f7.params.toList args.toList ds p := hA0
  rw [Try.params7] at hA hval hsz
  obtain ⟨v0, vs0, d0, ds0, p0, q0, hargs, rfl, rfl, h0, r0⟩ := trodAll_cons hA
  obtain ⟨v1, vs1, d1, ds1, p1, q1, rfl, rfl, rfl, h1, r1⟩ := trodAll_cons r0
  obtain ⟨rfl, rfl, rfl⟩ := trodAll_nil r1
  obtain rfl : args = #[v0, v1] := by cases args; simp_all
  obtain ⟨rfl, rfl⟩ := trodVars_none hV
  obtain ⟨y0, hK0, awl⟩ := OpenKd.VP (d := (Kd.slice 46 k46)) (ok := (fun xs : List (bC) => xs.length ≤ maxLen ∧ xs.length * 72 ≤ 140737488351232 ∧ ∀ x ∈ xs, ok46 x)) (OpenKd.aah (B := 72) Try.underlying36 (by kernel_rfl) (by kernel_rfl) (opens46 enc W)) hsz (j := 0) rfl rfl h0
  have k0 := h0
  have lt0 : ∀ x ∈ p0, x.block < W.heap.size := by obtain ⟨m, hm⟩ := k0; exact DataW.trod_lt m _ _ _ hm
  obtain ⟨a0, len0, cap0, rfl⟩ := okWide_slice Try.underlying36 (hval 0 36 v0 rfl rfl)
  obtain ⟨rfl, hl0, hC0⟩ := OpenKd.aai hK0
  obtain ⟨y1, hK1, awm⟩ := OpenKd.VP (d := k48) (ok := ok48) (opens48 enc W) hsz (j := 1) rfl rfl h1
  have k1 := h1
  have lt1 : ∀ x ∈ p1, x.block < W.heap.size := by obtain ⟨m, hm⟩ := k1; exact DataW.trod_lt m _ _ _ hm
  obtain ⟨cs1, rfl, _⟩ := okWide_struct Try.underlying48 (hval 1 48 v1 rfl rfl)
  obtain hcs1 := aao hK1
  obtain rfl := OpenKd.toArray_eq hcs1
  clear hA0 hval0 hsz0 hsz
  refine (eP.walk Pure.BufferTakes a0 cap0 y0 y1 W hC0 hl0  awl awm).mono fun e W' ⟨he, bel⟩ => ?_
  subst he
  exact ⟨_, rfl, _, _, _, [], _, [], hW', trodAll_mk1 (shut_bool Try.underlying4 _), (trodAll_cons_mk (Below.trod laidOut (by kernel_rfl) (of_decide_eq_true (by kernel_rfl)) k0 bel lt0) (trodAll_cons_mk (Below.trod laidOut (by kernel_rfl) (of_decide_eq_true (by kernel_rfl)) k1 bel lt1) trodAll_mk0)), rfl, bel.frame _, fun h => by cases h⟩
theorem over : Rows.bufferTakesRow.holds Try.pinned (OpenSpec.ofChange Rows.bufferTakesSpec) :=
  OpenClaim.holds_of_wide 7 Try.f7 rfl rfl rfl rfl rfl rfl rfl ⟨rfl, rfl, rfl, rfl, rfl⟩ rfl rfl rfl rfl rfl (by kernel_rfl) Try.func7 (by kernel_rfl)
    (of_decide_eq_true (by kernel_rfl)) (by unfold Func.isWrapper; first | (rw [if_pos (by decide +kernel)]; kernel_rfl) | (rw [if_neg (by decide +kernel)]; exact ⟨rfl, rfl⟩))
    (fun os started H enc _ => lifted os started H enc)
theorem proved : Rows.BufferTakesSaid := over
#print axioms proved
end Go.Proofs.Ytnklnjghecmihaa.bufferTakes
namespace Go.Proofs.Ytnklnjghecmihaa
/-- The row, under a short name, for the claim. -/
theorem bufferTakes_holds : Rows.BufferTakesSaid := bufferTakes.proved
end Go.Proofs.Ytnklnjghecmihaa
