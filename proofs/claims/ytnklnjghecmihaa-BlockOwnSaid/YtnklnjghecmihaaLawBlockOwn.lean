-- written by a program of this session (wip/myprint.py), over the kit's printer and the session's own contracts
import Derived.Test.YtnklnjghecmihaaRows
import Derived.Test.YtnklnjghecmihaaH5x53
import Derived.Test.YtnklnjghecmihaaPureBlockOwn
import Derived.Test.YtnklnjghecmihaaH5V0
import Derived.WalkKit
import Derived.ProofKit
import Derived.OpenShut
import Derived.ShutString
import Derived.ChangeOld
import Derived.Below
import Derived.SizedLaws
import Derived.Carry
namespace Go.Proofs.Ytnklnjghecmihaa.blockOwn
open Go.ChangeShapes Go.WideShapes Go.ChangeAt Go.RowKit Go.Proofs.Ytnklnjghecmihaa.H5 Go.Proofs.YtnklnjghecmihaaW.PrintWords Go.Proofs.YtnklnjghecmihaaW
open Go.ChangeMaps (open_string shut_string)
set_option linter.unusedVariables false
theorem own : ownKnob Try.prog.godebug = none := by kernel_rfl
theorem laidOut : laidOutB Try.prog = true := by kernel_rfl
theorem opens25 {H : Type} (enc : TypeId × Value → H) (W : World) : OpenKd.Opens enc Try.prog W 25 k25 ok25 :=
  OpenKd.opens_imp (OpenKd.opens_struct (gs := [(9, 1), (9, 1)]) (fun z => (⟨z.1, z.2⟩ : S25)) (fun _ => rfl) Try.underlying25 (by kernel_rfl) (by kernel_rfl) (by kernel_rfl) (OpenKd.opensF_cons (m := 1) (OpenKd.opens_string Try.underlying9) (OpenKd.opensF_one (m := 1) (OpenKd.opens_string Try.underlying9)))) (fun y h => by simpa [ok25] using h)
theorem opens48 {H : Type} (enc : TypeId × Value → H) (W : World) : OpenKd.Opens enc Try.prog W 48 k48 ok48 :=
  OpenKd.opens_imp (OpenKd.opens_struct (gs := [(9, 1), (9, 1)]) (fun z => (⟨z.1, z.2⟩ : S48)) (fun _ => rfl) Try.underlying48 (by kernel_rfl) (by kernel_rfl) (by kernel_rfl) (OpenKd.opensF_cons (m := 1) (OpenKd.opens_string Try.underlying9) (OpenKd.opensF_one (m := 1) (OpenKd.opens_string Try.underlying9)))) (fun y h => by simpa [ok48] using h)
set_option maxRecDepth 100000 in
theorem lifted (os : Os) (started : os.Started) (H : Type) (enc : TypeId × Value → H) :
    ReturnsInHanded {} Try.checked os 14 .any (Rows.blockOwnSpec.pre6 enc Try.prog Try.f14 Rows.blockOwnRow.domain false) (Rows.blockOwnSpec.post enc Try.prog Try.f14 false true false false) := by
  refine returnsInHanded_of_change_sized (C := Try.checked) own started (by kernel_rfl) Try.func14
    (ChangeSpec.witness6 (enc := enc) (C := Try.checked) false ⟨#[], #[.slice none 0 0, .agg #[.string ByteArray.empty, .string ByteArray.empty], .agg #[.string ByteArray.empty, .string ByteArray.empty]], []⟩ 8 (by kernel_rfl) (by kernel_rfl) (by kernel_rfl) (by kernel_rfl)) ?_
  intro W base args ds gs before hval0 hW hcnd hsz0 _
  have hsz : (DataW.weightsEach Try.prog (Try.f14.params.toList ++ Rows.blockOwnSpec.plain.varTypes Try.prog) (ds ++ gs)).all (· ≤ reachBytes) = true := hsz0
  have hval : ∀ (j : Nat) t v, Try.f14.params[j]? = some t → args[j]? = some v → Value.okWide Try.prog W .any base t v := hval0
  have hW' := hW
  obtain ⟨p, q, hA0, hV, rfl, hfz, hnd⟩ := hW
  have hA : DataW.TrodAll enc Try.prog W 0 (fun _ => true) true Try.f14.params.toList args.toList ds p := hA0
  rw [Try.params14] at hA hval hsz
  obtain ⟨v0, vs0, d0, ds0, p0, q0, hargs, rfl, rfl, h0, r0⟩ := trodAll_cons hA
  obtain ⟨v1, vs1, d1, ds1, p1, q1, rfl, rfl, rfl, h1, r1⟩ := trodAll_cons r0
  obtain ⟨v2, vs2, d2, ds2, p2, q2, rfl, rfl, rfl, h2, r2⟩ := trodAll_cons r1
  obtain ⟨rfl, rfl, rfl⟩ := trodAll_nil r2
  obtain rfl : args = #[v0, v1, v2] := by cases args; simp_all
  obtain ⟨rfl, rfl⟩ := trodVars_none hV
  obtain ⟨y0, hK0, ok_0⟩ := OpenKd.opens_arg (d := (Kd.slice 25 k25)) (ok := (fun xs : List (S25) => xs.length ≤ maxLen ∧ xs.length * 32 ≤ 140737488351232 ∧ ∀ x ∈ xs, ok25 x)) (OpenKd.opens_slice (B := 32) Try.underlying22 (by kernel_rfl) (by kernel_rfl) (opens25 enc W)) hsz (j := 0) rfl rfl h0
  have k0 := h0
  have lt0 : ∀ x ∈ p0, x.block < W.heap.size := by obtain ⟨m, hm⟩ := k0; exact DataW.trod_lt m _ _ _ hm
  obtain ⟨a0, len0, cap0, rfl⟩ := okWide_slice Try.underlying22 (hval 0 22 v0 rfl rfl)
  obtain ⟨rfl, hl0, hC0⟩ := OpenKd.cells_slice hK0
  obtain ⟨y1, hK1, ok_1⟩ := OpenKd.opens_arg (d := k25) (ok := ok25) (opens25 enc W) hsz (j := 1) rfl rfl h1
  have k1 := h1
  have lt1 : ∀ x ∈ p1, x.block < W.heap.size := by obtain ⟨m, hm⟩ := k1; exact DataW.trod_lt m _ _ _ hm
  obtain ⟨cs1, rfl, _⟩ := okWide_struct Try.underlying25 (hval 1 25 v1 rfl rfl)
  obtain hcs1 := k25_open hK1
  obtain rfl := OpenKd.toArray_eq hcs1
  obtain ⟨y2, hK2, ok_2⟩ := OpenKd.opens_arg (d := k48) (ok := ok48) (opens48 enc W) hsz (j := 2) rfl rfl h2
  have k2 := h2
  have lt2 : ∀ x ∈ p2, x.block < W.heap.size := by obtain ⟨m, hm⟩ := k2; exact DataW.trod_lt m _ _ _ hm
  obtain ⟨cs2, rfl, _⟩ := okWide_struct Try.underlying48 (hval 2 48 v2 rfl rfl)
  obtain hcs2 := k48_open hK2
  obtain rfl := OpenKd.toArray_eq hcs2
  clear hA0 hval0 hsz0 hsz
  refine (catchmentlaw10_BlockOwn.walk Pure.BlockOwn a0 cap0 y0 y1 y2 W hC0 hl0   ok_0 ok_1 ok_2).mono fun e W' ⟨he, bel⟩ => ?_
  subst he
  exact ⟨_, rfl, _, _, _, [], _, [], hW', trodAll_mk1 (shut_bool Try.underlying4 _), (trodAll_cons_mk (Below.trod laidOut (by kernel_rfl) (of_decide_eq_true (by kernel_rfl)) k0 bel lt0) (trodAll_cons_mk (Below.trod laidOut (by kernel_rfl) (of_decide_eq_true (by kernel_rfl)) k1 bel lt1) (trodAll_cons_mk (Below.trod laidOut (by kernel_rfl) (of_decide_eq_true (by kernel_rfl)) k2 bel lt2) trodAll_mk0))), rfl, bel.frame _, fun h => by cases h⟩
theorem over : Rows.blockOwnRow.holds Try.pinned (OpenSpec.ofChange Rows.blockOwnSpec) :=
  OpenClaim.holds_of_wide 14 Try.f14 rfl rfl rfl rfl rfl rfl rfl ⟨rfl, rfl, rfl, rfl, rfl⟩ rfl rfl rfl rfl rfl (by kernel_rfl) Try.func14 (by kernel_rfl)
    (of_decide_eq_true (by kernel_rfl)) (by unfold Func.isWrapper; first | (rw [if_pos (by decide +kernel)]; kernel_rfl) | (rw [if_neg (by decide +kernel)]; exact ⟨rfl, rfl⟩))
    (fun os started H enc _ => lifted os started H enc)
theorem proved : Rows.BlockOwnSaid := over
#print axioms proved
end Go.Proofs.Ytnklnjghecmihaa.blockOwn
namespace Go.Proofs.Ytnklnjghecmihaa
/-- The row, under a short name, for the claim. -/
theorem blockOwn_holds : Rows.BlockOwnSaid := blockOwn.proved
end Go.Proofs.Ytnklnjghecmihaa
