/- For all rows of blocks, messages and numbers the law LeafKeeps answers true: no condition beyond what a Go value of these types can be. -/
import Derived.Test.YtpfikmchimlneaaM2x87
import Derived.Test.YtpfikmchimlneaaM2SRowSpec
set_option linter.unusedVariables false
set_option linter.unusedSimpArgs false
namespace Go.Proofs.Ytpfikmchimlneaa.Pure
open Go.RowKit Go.Proofs.Ytpfikmchimlneaa.M2 Go.Proofs.Ytpfikmchimlneaa.BlkBase Go.Proofs.Ytpfikmchimlneaa.BlkSpec Go.Proofs.Ytpfikmchimlneaa.EntSpec Go.Proofs.Ytpfikmchimlneaa.LfSpec Go.Proofs.Ytpfikmchimlneaa.RowSpec Go.Proofs.YtpfikmchimlneaaW.PrintWords Go.Proofs.YtpfikmchimlneaaW.PrintLast Go.Proofs.YtpfikmchimlneaaW.PrintMore Go.Proofs.YtpfikmchimlneaaW.Mine Go.Proofs.YtpfikmchimlneaaW.Ord
theorem refRight_loop {l : List (List S85)} {M : Int} (hl : l.length < 400000) (hf : l.flatten.length < 400000) : ∀ (r : List (List S85)) (i k : Nat), l.drop i = r → r.length + 2 * l.length + l.flatten.length + 3 < k → ∃ b, catchmentref11_Right.l0 k l M (i : Int) = some b ∧ (b = true → ∀ x ∈ r, (x.length : Int) ≤ M)
  | _, _, 0, _, h => absurd h (by omega)
  | [], i, k + 1, h, hk => by
    have := drop_nil h
    obtain ⟨b, h1, h2⟩ := row_f l hl hf k (by omega)
    rw [catchmentref11_Right.l0, if_neg (by omega), h1]
    exact ⟨b, rfl, fun _ => by simp⟩
  | x :: r, i, k + 1, h, hk => by
    obtain ⟨h1, h2, h3⟩ := drop_row h
    simp only [List.length_cons] at hk
    rw [catchmentref11_Right.l0, if_pos (by omega), if_pos (by omega), h2, succ_nat i (by omega)]
    by_cases h0 : (x.length : Int) > M
    · rw [if_pos h0]
      exact ⟨false, rfl, fun h => by cases h⟩
    · rw [if_neg h0]
      obtain ⟨b, b1, b2⟩ := refRight_loop hl hf r (i + 1) k h3 (by omega)
      refine ⟨b, b1, fun hb y hy => ?_⟩
      rcases List.mem_cons.1 hy with rfl | hy
      · omega
      · exact b2 hb y hy
theorem keeps_j0 {y : List (List S85)} {ms : List S69} {ys : List (List S85)} {a2 : Int} (hy : y.length ≤ 10) (hyf : y.flatten.length ≤ 100) (hm : ms.length ≤ 30) (hn : ∀ m ∈ ms, Num m) (hw : WF ys) (hfind : ∀ q, find ys.flatten q = vals ms q (find y.flatten q)) (hlen : ys.flatten.length ≤ 130) (b : Bool) (hb : b = true → ∀ x ∈ ys, (x.length : Int) ≤ a2) (k : Nat) (hk : 15000 ≤ k) : catchmentlaw11_LeafKeeps.j0 k y ms a2 ys b = some true := by
  obtain ⟨k, rfl⟩ : ∃ k2, k = k2 + 1 := ⟨k - 1, by omega⟩
  have hyl := row_len hw.ne
  obtain ⟨R, r1, r2, r3, r4⟩ := ents_f (ms := ms) (by omega) hn (l := y.flatten) (by omega) k (by omega)
  obtain rfl : ys.flatten = R := srt_ext hw.srt r2 (fun q => by rw [hfind, r3])
  have hR : leaf_Right.f k ys 1000 = some true := leafRight_f hw (fun x hx => by have := flat_len x hx; omega) (by omega) (by omega) k (by omega)
  rw [catchmentlaw11_LeafKeeps.j0, hlive_ge (by omega), Option.bind_some, if_pos rfl, entries_f ys (by omega), Option.bind_some, refEntries_f y (by omega) (by omega) k (by omega), Option.bind_some, r1, Option.bind_some, same_f _ (by omega) k (by omega), Option.bind_some, if_pos rfl, hR]
  cases b with
  | false => rfl
  | true =>
    rw [if_pos rfl, leafRight_f hw (hb rfl) (by omega) (by omega) k (by omega)]
    rfl
theorem LeafKeeps_of (l0 : List (List S85)) (l1 : List S69) (a2 : Int) (hn : ∀ m ∈ l1, Num m) (ha : a2 ≤ 9223372036854775807) : catchmentlaw11_LeafKeeps.f 20000 l0 l1 a2 = some true := by
  obtain ⟨y, y1, y2, y3⟩ := few_f l0 20000 (by omega)
  have hyf := flat_le y3
  have hyf2 : y.flatten.length ≤ 100 := by have := Nat.mul_le_mul_right 10 y2; omega
  unfold catchmentlaw11_LeafKeeps.f
  rw [y1, Option.bind_some]
  have hm : 0 ≤ mn (l1.length : Int) 30 ∧ mn (l1.length : Int) 30 ≤ (l1.length : Int) ∧ mn (l1.length : Int) 30 ≤ 30 := by
    unfold mn
    split <;> omega
  generalize mn (l1.length : Int) 30 = j at hm
  have hms : (l1.take j.toNat).length ≤ 30 := by rw [List.length_take]; omega
  have hnm : ∀ m ∈ l1.take j.toNat, Num m := fun m h => hn m (List.mem_of_mem_take h)
  rw [if_pos hm.1, if_pos hm.2.1, Option.bind_some]
  generalize l1.take j.toNat = ms at hms hnm
  obtain ⟨b, b1, b2⟩ := row_f y (by omega) (by omega) 20000 (by omega)
  rw [b1, Option.bind_some]
  cases b with
  | false => rw [if_neg (by decide), hlive_ge (by omega)]; rfl
  | true =>
    have hw := b2 rfl
    obtain ⟨ys, s1, s2, s3, s4, s5⟩ := fold_f hw ms a2 ha (by omega) 20000 (by omega)
    rw [if_pos rfl, s1, Option.bind_some]
    by_cases h2 : a2 ≥ 2
    · obtain ⟨c, c1, c2⟩ := refRight_loop (M := a2) (l := y) (by omega) (by omega) y 0 20000 (List.drop_zero ..) (by omega)
      have c1' : catchmentref11_Right.f 20000 y a2 = some c := c1
      rw [if_pos h2, c1', Option.bind_some]
      refine keeps_j0 y2 hyf2 hms hnm s2 s3 (by omega) c (fun hc x hx => ?_) 20000 (by omega)
      have := s4 (fun z hz => by have := c2 hc z hz; omega) x hx
      omega
    · rw [if_neg h2]
      exact keeps_j0 y2 hyf2 hms hnm s2 s3 (by omega) false (fun h => by cases h) 20000 (by omega)
theorem LeafKeeps : catchmentlaw11_LeafKeeps.Pure := by
  intro l0 l1 a2 _ h1 h
  have hb : -9223372036854775808 ≤ a2 ∧ a2 ≤ 9223372036854775807 := by simpa [Lit.wf, IntKind.min, IntKind.max, IntKind.signed, IntKind.bits] using h
  refine ⟨20000, LeafKeeps_of l0 l1 a2 (fun m hm => ?_) hb.2⟩
  have h5 : (Lit.int .u64 m.f5).wf = true := (h1.2.2 m hm).2.2.2.2.2
  have h6 : 0 ≤ m.f5 ∧ m.f5 ≤ 18446744073709551615 := by simpa [Lit.wf, IntKind.min, IntKind.max, IntKind.signed, IntKind.bits] using h5
  exact h6
end Go.Proofs.Ytpfikmchimlneaa.Pure
