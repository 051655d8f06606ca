/- For all entries the law BlockHalves answers true: no condition beyond what a Go value of these types can be. -/
import Derived.Test.YtnklnjghecmihaaH3x33
import Derived.Test.YtnklnjghecmihaaMine
set_option linter.unusedVariables false
set_option linter.unusedSimpArgs false
namespace Go.Proofs.Ytnklnjghecmihaa.Pure
open Go.RowKit Go.Proofs.Ytnklnjghecmihaa.H3 Go.Proofs.YtnklnjghecmihaaW.PrintWords Go.Proofs.YtnklnjghecmihaaW.PrintLast Go.Proofs.YtnklnjghecmihaaW.PrintMore Go.Proofs.YtnklnjghecmihaaW.Mine Go.Proofs.YtnklnjghecmihaaW.Ord
theorem wrap64_id {n : Int} (h0 : 0 ≤ n) (h1 : n < 9223372036854775808) : wrap64 n = n := by unfold wrap64; omega
theorem hlive_90 : catchmentlaw10_live.f 90 = some true := by decide +kernel
theorem hlive_ge {k : Nat} (h : 90 ≤ k) : catchmentlaw10_live.f k = some true := by
  obtain ⟨m, rfl⟩ : ∃ m, k = 90 + m := ⟨k - 90, by omega⟩
  induction m with
  | zero => exact hlive_90
  | succ m ih => exact catchmentlaw10_live.mono (90 + m) _ (ih (by omega))
theorem succ_nat (i : Nat) (h2 : i < 1000000) : wrap64 ((i : Int) + 1) = ((i + 1 : Nat) : Int) := by rw [wrap64_id (by omega) (by omega)]; omega
theorem rises_ex (l : List S25) (hl : l.length < 1000000) : ∀ (d i k : Nat), d = l.length - i → 1 ≤ i → d < k → ∃ b, catchmentref05_Rises.l0 k l (i : Int) = some b
  | d, i, 0, _, _, h => absurd h (by omega)
  | d, i, k + 1, hd, hi, hk => by
    by_cases h : i < l.length
    · have e : wrap64 ((i : Int) - 1) = (i : Int) - 1 := wrap64_id (by omega) (by omega)
      rw [catchmentref05_Rises.l0, if_pos (by omega), e, if_pos (by omega), if_pos (by omega), if_pos (by omega), succ_nat i (by omega)]
      split
      · exact rises_ex l hl (d - 1) (i + 1) k (by omega) (by omega) (by omega)
      · exact ⟨_, rfl⟩
    · rw [catchmentref05_Rises.l0, if_neg (by omega)]
      exact ⟨_, rfl⟩
theorem same_loop (l : List S25) (hl : l.length < 1000000) : ∀ (d i k : Nat), d = l.length - i → i ≤ l.length → d < k → catchmentref05_Same.l0 k l l (i : Int) = some true
  | d, i, 0, _, _, h => absurd h (by omega)
  | 0, i, k + 1, hd, hi, hk => by rw [catchmentref05_Same.l0, if_neg (by omega)]
  | d + 1, i, k + 1, hd, hi, hk => by
    rw [catchmentref05_Same.l0, if_pos (by omega), if_pos (by omega), if_pos (by omega), if_neg (by simp), succ_nat i (by omega)]
    exact same_loop l hl d (i + 1) k (by omega) (by omega) (by omega)
theorem same_f (l : List S25) (hl : l.length < 1000000) (k : Nat) (hk : l.length < k) : catchmentref05_Same.f k l l = some true := by
  unfold catchmentref05_Same.f
  rw [if_pos rfl]
  exact same_loop l hl l.length 0 k (by omega) (by omega) hk
theorem clone_f (l : List S25) (h : l.length < 1000000) : api_Entry.f l = some l := by
  unfold api_Entry.f
  rw [if_pos h]
theorem BlockHalves : catchmentlaw10_BlockHalves.Pure := by
  intro l _
  refine ⟨300 + 1, ?_⟩
  unfold catchmentlaw10_BlockHalves.f
  have hm : 0 ≤ mn (l.length : Int) 40 ∧ mn (l.length : Int) 40 ≤ (l.length : Int) ∧ mn (l.length : Int) 40 ≤ 40 := by
    unfold mn
    split <;> omega
  generalize mn (l.length : Int) 40 = m at hm
  rw [if_pos hm.1, if_pos hm.2.1]
  have hl : (l.take m.toNat).length ≤ 40 := by rw [List.length_take]; omega
  generalize l.take m.toNat = p at hl
  obtain ⟨b, hb⟩ := rises_ex p (by omega) (p.length - 1) 1 (300 + 1) rfl (by omega) (by omega)
  have hb2 : catchmentref05_Rises.f (300 + 1) p = some b := hb
  rw [Option.bind_some, hb2, Option.bind_some]
  cases b with
  | false => rw [if_neg (by decide), hlive_ge (by omega)]; rfl
  | true =>
    have hw : wrap64 ((p.length : Int) / 2) = ((p.length / 2 : Nat) : Int) := by rw [wrap64_id (by omega) (by omega)]; omega
    have ht : (p.take (p.length / 2)).length = p.length / 2 := by rw [List.length_take]; omega
    have hd : (p.drop (p.length / 2)).length = p.length - p.length / 2 := by rw [List.length_drop]
    have hh : block_Halves.f p = some (p.take (p.length / 2), p.drop (p.length / 2)) := by
      unfold block_Halves.f
      rw [hw, if_pos (by omega), if_pos (by omega), Int.toNat_natCast, clone_f _ (by omega), Option.bind_some, clone_f _ (by omega), Option.bind_some]
    rw [if_pos rfl, hh, Option.bind_some]
    have hs : wrap64 (((p.take (p.length / 2)).length : Int) + ((p.drop (p.length / 2)).length : Int)) = (p.length : Int) := by rw [wrap64_id (by omega) (by omega)]; omega
    have hbne : ((p.length : Int) != (p.length : Int)) = false := by simp
    dsimp only
    rw [hw, if_pos (by omega), hs, hbne, catchmentlaw10_BlockHalves.j0, if_neg (by decide), hlive_ge (by omega), Option.bind_some, if_pos rfl, Option.bind_some, if_pos (by simp only [List.length_nil]; omega), Option.bind_some, if_pos (by simp only [List.nil_append]; omega)]
    rw [List.nil_append, List.take_append_drop, same_f p (by omega) 300 (by omega)]
    rfl
end Go.Proofs.Ytnklnjghecmihaa.Pure
