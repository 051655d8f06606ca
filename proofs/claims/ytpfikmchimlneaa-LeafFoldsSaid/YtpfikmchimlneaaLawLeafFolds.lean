-- written by a program of this session (wip/myprint.py), over the kit's printer and the session's own contracts
import Derived.Test.YtpfikmchimlneaaRows
import Derived.Test.YtpfikmchimlneaaM3x85
import Derived.Test.YtpfikmchimlneaaPureLeafFolds
import Derived.Test.YtpfikmchimlneaaM3V0
import Derived.WalkKit
import Derived.ProofKit
import Derived.OpenShut
import Derived.ShutString
import Derived.ChangeOld
import Derived.Below
import Derived.SizedLaws
import Derived.Carry
namespace Go.Proofs.Ytpfikmchimlneaa.leafFolds
open Go.ChangeShapes Go.WideShapes Go.ChangeAt Go.RowKit Go.Proofs.Ytpfikmchimlneaa.M3 Go.Proofs.YtpfikmchimlneaaW.PrintWords Go.Proofs.YtpfikmchimlneaaW
open Go.ChangeMaps (open_string shut_string)
set_option linter.unusedVariables false
theorem own : ownKnob Try.prog.godebug = none := by kernel_rfl
theorem laidOut : laidOutB Try.prog = true := by kernel_rfl
theorem opens85 {H : Type} (enc : TypeId × Value → H) (W : World) : OpenKd.Opens enc Try.prog W 85 k85 ok85 :=
  OpenKd.opens_imp (OpenKd.opens_struct (gs := [(9, 1), (9, 1)]) (fun z => (⟨z.1, z.2⟩ : S85)) (fun _ => rfl) Try.underlying85 (by kernel_rfl) (by kernel_rfl) (by kernel_rfl) (OpenKd.opensF_cons (m := 1) (OpenKd.opens_string Try.underlying9) (OpenKd.opensF_one (m := 1) (OpenKd.opens_string Try.underlying9)))) (fun y h => by simpa [ok85] using h)
theorem opens69 {H : Type} (enc : TypeId × Value → H) (W : World) : OpenKd.Opens enc Try.prog W 69 k69 ok69 :=
  OpenKd.opens_imp (OpenKd.opens_struct (gs := [(66, 1), (3, 1), (9, 1), (9, 1), (9, 1), (67, 1)]) (fun z => (⟨z.1, z.2.1, z.2.2.1, z.2.2.2.1, z.2.2.2.2.1, z.2.2.2.2.2⟩ : S69)) (fun _ => rfl) Try.underlying69 (by kernel_rfl) (by kernel_rfl) (by kernel_rfl) (OpenKd.opensF_cons (m := 1) (OpenKd.opens_int Try.underlying66) (OpenKd.opensF_cons (m := 1) (OpenKd.opens_int Try.underlying3) (OpenKd.opensF_cons (m := 1) (OpenKd.opens_string Try.underlying9) (OpenKd.opensF_cons (m := 1) (OpenKd.opens_string Try.underlying9) (OpenKd.opensF_cons (m := 1) (OpenKd.opens_string Try.underlying9) (OpenKd.opensF_one (m := 1) (OpenKd.opens_int Try.underlying67)))))))) (fun y h => by simpa [ok69] using h)
set_option maxRecDepth 100000 in
theorem lifted (os : Os) (started : os.Started) (H : Type) (enc : TypeId × Value → H) :
    ReturnsInHanded {} Try.checked os 7 .any (Rows.leafFoldsSpec.pre6 enc Try.prog Try.f7 Rows.leafFoldsRow.domain false) (Rows.leafFoldsSpec.post enc Try.prog Try.f7 false true false false) := by
  refine returnsInHanded_of_change_sized (C := Try.checked) own started (by kernel_rfl) Try.func7
    (ChangeSpec.witness6 (enc := enc) (C := Try.checked) false ⟨#[], #[.slice none 0 0, .slice none 0 0, .int .i64 0], []⟩ 8 (by kernel_rfl) (by kernel_rfl) (by kernel_rfl) (by kernel_rfl)) ?_
  intro W base args ds gs before hval0 hW hcnd hsz0 _
  have hsz : (DataW.weightsEach Try.prog (Try.f7.params.toList ++ Rows.leafFoldsSpec.plain.varTypes Try.prog) (ds ++ gs)).all (· ≤ reachBytes) = true := hsz0
  have hval : ∀ (j : Nat) t v, Try.f7.params[j]? = some t → args[j]? = some v → Value.okWide Try.prog W .any base t v := hval0
  have hW' := hW
  obtain ⟨p, q, hA0, hV, rfl, hfz, hnd⟩ := hW
  have hA : DataW.TrodAll enc Try.prog W 0 (fun _ => true) true Try.f7.params.toList args.toList ds p := hA0
  rw [Try.params7] at hA hval hsz
  obtain ⟨v0, vs0, d0, ds0, p0, q0, hargs, rfl, rfl, h0, r0⟩ := trodAll_cons hA
  obtain ⟨v1, vs1, d1, ds1, p1, q1, rfl, rfl, rfl, h1, r1⟩ := trodAll_cons r0
  obtain ⟨v2, vs2, d2, ds2, p2, q2, rfl, rfl, rfl, h2, r2⟩ := trodAll_cons r1
  obtain ⟨rfl, rfl, rfl⟩ := trodAll_nil r2
  obtain rfl : args = #[v0, v1, v2] := by cases args; simp_all
  obtain ⟨rfl, rfl⟩ := trodVars_none hV
  obtain ⟨y0, hK0, ok_0⟩ := OpenKd.opens_arg (d := (Kd.slice 74 (Kd.slice 85 k85))) (ok := (fun xs : List (List (S85)) => xs.length ≤ maxLen ∧ xs.length * 24 ≤ 140737488351232 ∧ ∀ x ∈ xs, (fun xs : List (S85) => xs.length ≤ maxLen ∧ xs.length * 32 ≤ 140737488351232 ∧ ∀ x ∈ xs, ok85 x) x)) (OpenKd.opens_slice (B := 24) Try.underlying59 (by kernel_rfl) (by kernel_rfl) (OpenKd.opens_slice (B := 32) Try.underlying74 (by kernel_rfl) (by kernel_rfl) (opens85 enc W))) hsz (j := 0) rfl rfl h0
  have k0 := h0
  have lt0 : ∀ x ∈ p0, x.block < W.heap.size := by obtain ⟨m, hm⟩ := k0; exact DataW.trod_lt m _ _ _ hm
  obtain ⟨a0, len0, cap0, rfl⟩ := okWide_slice Try.underlying59 (hval 0 59 v0 rfl rfl)
  obtain ⟨rfl, hl0, hC0⟩ := OpenKd.cells_slice hK0
  obtain ⟨y1, hK1, ok_1⟩ := OpenKd.opens_arg (d := (Kd.slice 69 k69)) (ok := (fun xs : List (S69) => xs.length ≤ maxLen ∧ xs.length * 72 ≤ 140737488351232 ∧ ∀ x ∈ xs, ok69 x)) (OpenKd.opens_slice (B := 72) Try.underlying60 (by kernel_rfl) (by kernel_rfl) (opens69 enc W)) hsz (j := 1) rfl rfl h1
  have k1 := h1
  have lt1 : ∀ x ∈ p1, x.block < W.heap.size := by obtain ⟨m, hm⟩ := k1; exact DataW.trod_lt m _ _ _ hm
  obtain ⟨a1, len1, cap1, rfl⟩ := okWide_slice Try.underlying60 (hval 1 60 v1 rfl rfl)
  obtain ⟨rfl, hl1, hC1⟩ := OpenKd.cells_slice hK1
  obtain ⟨y2, hK2, ok_2⟩ := OpenKd.opens_arg (d := (Kd.int .i64)) (ok := (fun x : Int => (Lit.int .i64 x).wf = true)) (OpenKd.opens_int Try.underlying3) hsz (j := 2) rfl rfl h2
  obtain ⟨a2, rfl, rfl, rfl, w2⟩ := open_int Try.underlying3 (hval 2 3 v2 rfl rfl) h2
  obtain rfl : a2 = y2 := by simpa [Kd.int, Kd.scalar, Value.cells] using hK2
  clear hA0 hval0 hsz0 hsz
  refine (catchmentlaw11_LeafFolds.walk Pure.LeafFolds a0 cap0 y0 a1 cap1 y1 a2 W hC0 hl0 hC1 hl1 ok_0 ok_1 ok_2).mono fun e W' ⟨he, bel⟩ => ?_
  subst he
  exact ⟨_, rfl, _, _, _, [], _, [], hW', trodAll_mk1 (shut_bool Try.underlying4 _), (trodAll_cons_mk (Below.trod laidOut (by kernel_rfl) (of_decide_eq_true (by kernel_rfl)) k0 bel lt0) (trodAll_cons_mk (Below.trod laidOut (by kernel_rfl) (of_decide_eq_true (by kernel_rfl)) k1 bel lt1) (trodAll_cons_mk (shut_int Try.underlying3 w2) trodAll_mk0))), rfl, bel.frame _, fun h => by cases h⟩
theorem over : Rows.leafFoldsRow.holds Try.pinned (OpenSpec.ofChange Rows.leafFoldsSpec) :=
  OpenClaim.holds_of_wide 7 Try.f7 rfl rfl rfl rfl rfl rfl rfl ⟨rfl, rfl, rfl, rfl, rfl⟩ rfl rfl rfl rfl rfl (by kernel_rfl) Try.func7 (by kernel_rfl)
    (of_decide_eq_true (by kernel_rfl)) (by unfold Func.isWrapper; first | (rw [if_pos (by decide +kernel)]; kernel_rfl) | (rw [if_neg (by decide +kernel)]; exact ⟨rfl, rfl⟩))
    (fun os started H enc _ => lifted os started H enc)
theorem proved : Rows.LeafFoldsSaid := over
#print axioms proved
end Go.Proofs.Ytpfikmchimlneaa.leafFolds
namespace Go.Proofs.Ytpfikmchimlneaa
/-- The row, under a short name, for the claim. -/
theorem leafFolds_holds : Rows.LeafFoldsSaid := leafFolds.proved
end Go.Proofs.Ytpfikmchimlneaa
