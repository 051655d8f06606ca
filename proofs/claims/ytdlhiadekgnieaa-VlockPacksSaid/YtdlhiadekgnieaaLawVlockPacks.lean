-- written by a program of this session (wip/myprint.py), over the kit's printer and the session's own contracts
import Derived.Test.YtdlhiadekgnieaaRows
import Derived.Test.YtdlhiadekgnieaaQ1x65
import Derived.Test.YtdlhiadekgnieaaPureVlockPacks
import Derived.Test.YtdlhiadekgnieaaOpen
import Derived.WalkKit
import Derived.ProofKit
import Derived.OpenShut
import Derived.ShutString
import Derived.ChangeOld
import Derived.Below
import Derived.SizedLaws
import Derived.Carry
namespace Go.Proofs.Ytdlhiadekgnieaa.vlockPacks
open Go.ChangeShapes Go.WideShapes Go.ChangeAt Go.RowKit Go.Proofs.Ytdlhiadekgnieaa.Q1 Go.Proofs.YtdlhiadekgnieaaW.PrintWords Go.Proofs.YtdlhiadekgnieaaW
open Go.ChangeMaps (open_string shut_string)
set_option linter.unusedVariables false
theorem own : ownKnob Try.prog.godebug = none := by kernel_rfl
theorem laidOut : laidOutB Try.prog = true := by kernel_rfl
theorem opens32 {H : Type} (enc : TypeId × Value → H) (W : World) : OpenKd.Opens enc Try.prog W 32 k32 ok32 :=
  OpenKd.opens_imp (OpenKd.opens_struct (gs := [(3, 1), (3, 1), (4, 1)]) (fun z => (⟨z.1, z.2.1, z.2.2⟩ : S32)) (fun _ => rfl) Try.underlying32 (by kernel_rfl) (by kernel_rfl) (by kernel_rfl) (OpenKd.opensF_cons (m := 1) (OpenKd.opens_int Try.underlying3) (OpenKd.opensF_cons (m := 1) (OpenKd.opens_int Try.underlying3) (OpenKd.opensF_one (m := 1) (OpenKd.opens_bool Try.underlying4))))) (fun y h => by simpa [ok32] using h)
set_option maxRecDepth 100000 in
theorem lifted (os : Os) (started : os.Started) (H : Type) (enc : TypeId × Value → H) :
    ReturnsInHanded {} Try.checked os 13 .any (Rows.vlockPacksSpec.pre6 enc Try.prog Try.f13 Rows.vlockPacksRow.domain false) (Rows.vlockPacksSpec.post enc Try.prog Try.f13 false true false false) := by
  refine returnsInHanded_of_change_sized (C := Try.checked) own started (by kernel_rfl) Try.func13
    (ChangeSpec.witness6 (enc := enc) (C := Try.checked) false ⟨#[], #[.agg #[.int .i64 0, .int .i64 0, .bool false], .int .u64 0], []⟩ 8 (by kernel_rfl) (by kernel_rfl) (by kernel_rfl) (by kernel_rfl)) ?_
  intro W base args ds gs before hval0 hW hcnd hsz0 _
  have hsz : (DataW.weightsEach Try.prog (Try.f13.params.toList ++ Rows.vlockPacksSpec.plain.varTypes Try.prog) (ds ++ gs)).all (· ≤ reachBytes) = true := hsz0
  have hval : ∀ (j : Nat) t v, Try.f13.params[j]? = some t → args[j]? = some v → Value.okWide Try.prog W .any base t v := hval0
  have hW' := hW
  obtain ⟨p, q, hA0, hV, rfl, hfz, hnd⟩ := hW
  have hA : DataW.TrodAll enc Try.prog W 0 (fun _ => true) true Try.f13.params.toList args.toList ds p := hA0
  rw [Try.params13] at hA hval hsz
  obtain ⟨v0, vs0, d0, ds0, p0, q0, hargs, rfl, rfl, h0, r0⟩ := trodAll_cons hA
  obtain ⟨v1, vs1, d1, ds1, p1, q1, rfl, rfl, rfl, h1, r1⟩ := trodAll_cons r0
  obtain ⟨rfl, rfl, rfl⟩ := trodAll_nil r1
  obtain rfl : args = #[v0, v1] := by cases args; simp_all
  obtain ⟨rfl, rfl⟩ := trodVars_none hV
  obtain ⟨y0, hK0, ok_0⟩ := OpenKd.opens_arg (d := k32) (ok := ok32) (opens32 enc W) hsz (j := 0) rfl rfl h0
  have k0 := h0
  have lt0 : ∀ x ∈ p0, x.block < W.heap.size := by obtain ⟨m, hm⟩ := k0; exact DataW.trod_lt m _ _ _ hm
  obtain ⟨cs0, rfl, _⟩ := okWide_struct Try.underlying32 (hval 0 32 v0 rfl rfl)
  obtain hcs0 := k32_open hK0
  obtain rfl := OpenKd.toArray_eq hcs0
  obtain ⟨y1, hK1, ok_1⟩ := OpenKd.opens_arg (d := (Kd.int .u64)) (ok := (fun x : Int => (Lit.int .u64 x).wf = true)) (OpenKd.opens_int Try.underlying64) hsz (j := 1) rfl rfl h1
  obtain ⟨a1, rfl, rfl, rfl, w1⟩ := open_int Try.underlying64 (hval 1 64 v1 rfl rfl) h1
  obtain rfl : a1 = y1 := by simpa [Kd.int, Kd.scalar, Value.cells] using hK1
  clear hA0 hval0 hsz0 hsz
  refine (catchmentlaw07_VlockPacks.walk Pure.VlockPacks y0 a1 W  ok_0 ok_1).mono fun e W' ⟨he, bel⟩ => ?_
  subst he
  exact ⟨_, rfl, _, _, _, [], _, [], hW', trodAll_mk1 (shut_bool Try.underlying4 _), (trodAll_cons_mk (Below.trod laidOut (by kernel_rfl) (of_decide_eq_true (by kernel_rfl)) k0 bel lt0) (trodAll_cons_mk (shut_int Try.underlying64 w1) trodAll_mk0)), rfl, bel.frame _, fun h => by cases h⟩
theorem over : Rows.vlockPacksRow.holds Try.pinned (OpenSpec.ofChange Rows.vlockPacksSpec) :=
  OpenClaim.holds_of_wide 13 Try.f13 rfl rfl rfl rfl rfl rfl rfl ⟨rfl, rfl, rfl, rfl, rfl⟩ rfl rfl rfl rfl rfl (by kernel_rfl) Try.func13 (by kernel_rfl)
    (of_decide_eq_true (by kernel_rfl)) (by unfold Func.isWrapper; first | (rw [if_pos (by decide +kernel)]; kernel_rfl) | (rw [if_neg (by decide +kernel)]; exact ⟨rfl, rfl⟩))
    (fun os started H enc _ => lifted os started H enc)
theorem proved : Rows.VlockPacksSaid := over
#print axioms proved
end Go.Proofs.Ytdlhiadekgnieaa.vlockPacks
namespace Go.Proofs.Ytdlhiadekgnieaa
/-- The row, under a short name, for the claim. -/
theorem vlockPacks_holds : Rows.VlockPacksSaid := vlockPacks.proved
end Go.Proofs.Ytdlhiadekgnieaa
