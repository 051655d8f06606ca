/- For all entries and every text the law BlockPacks answers true: no condition beyond what a Go value of these types can be. -/
import Derived.Test.YtnklnjghecmihaaH6x38
import Derived.Test.YtnklnjghecmihaaPackSpec
set_option linter.unusedVariables false
set_option linter.unusedSimpArgs false
namespace Go.Proofs.Ytnklnjghecmihaa.Pure
open Go.RowKit Go.Proofs.Ytnklnjghecmihaa.H6 Go.Proofs.Ytnklnjghecmihaa.NumSpec Go.Proofs.Ytnklnjghecmihaa.UnpSpec Go.Proofs.Ytnklnjghecmihaa.PackSpec Go.Proofs.YtnklnjghecmihaaW.PrintWords Go.Proofs.YtnklnjghecmihaaW.PrintLast Go.Proofs.YtnklnjghecmihaaW.PrintMore Go.Proofs.YtnklnjghecmihaaW.Mine Go.Proofs.YtnklnjghecmihaaW.Ord
theorem packs_end (k : Nat) (hk : 40000 ≤ k) (l : List S25) (s : ByteArray) (hl : l.length ≤ 40) (hF : Fits l) : catchmentlaw10_BlockPacks.l0 k l s (l.length : Int) = some true := by
  obtain ⟨k, rfl⟩ : ∃ m, k = m + 1 := ⟨k - 1, by omega⟩
  rw [catchmentlaw10_BlockPacks.l0, if_neg (by omega)]
  by_cases hs : (s.size : Int) > 4000
  · rw [if_pos hs, hlive_ge (by omega)]
    rfl
  · have h := unp_len s
    have e1 : block_Unpack.f k s = some (unp s) := unpack_f k s (by omega) (by omega)
    have e2 : catchmentref10_Unpack.f k s = some (unp s) := refUnpack_f k s (by omega) (by omega)
    rw [if_neg hs, e1, Option.bind_some, e2, Option.bind_some, hlive_ge (by omega), Option.bind_some, if_pos rfl, pack_f k l hF (by omega) (by omega), Option.bind_some, refPack_f k l hF (by omega) (by omega), Option.bind_some, if_pos rfl, if_pos rfl, same_f _ (by omega) k (by omega)]
    rfl
theorem packs_loop (l : List S25) (s : ByteArray) (hl : l.length ≤ 40) : ∀ (d j k : Nat), j + d = l.length → d + 40000 ≤ k → (∀ x ∈ l.take j, x.f0.size ≤ 5000 ∧ x.f1.size ≤ 5000) → catchmentlaw10_BlockPacks.l0 k l s (j : Int) = some true
  | 0, j, k, hd, hk, h => by
    obtain rfl : j = l.length := by omega
    rw [List.take_length] at h
    exact packs_end k (by omega) l s hl h
  | d + 1, j, 0, hd, hk, h => absurd hk (by omega)
  | d + 1, j, k + 1, hd, hk, h => by
    have hj : j < l.length := by omega
    have e1 : wrap64 ((j : Int) + 1) = ((j + 1 : Nat) : Int) := by rw [wrap64_id (by omega) (by omega)]; omega
    rw [catchmentlaw10_BlockPacks.l0, if_pos (by omega), if_pos (by omega)]
    by_cases b1 : (((rd_T25 l (j : Int)).f0).size : Int) > 4000
    · rw [if_pos b1, hlive_ge (by omega)]
      rfl
    · rw [if_neg b1]
      by_cases b2 : (((rd_T25 l (j : Int)).f1).size : Int) > 4000
      · rw [if_pos b2, hlive_ge (by omega)]
        rfl
      · rw [if_neg b2, e1]
        refine packs_loop l s hl d (j + 1) k (by omega) (by omega) (fun x hx => ?_)
        rw [List.take_succ_eq_append_getElem hj] at hx
        rcases List.mem_append.1 hx with hx | hx
        · exact h x hx
        · have e : l[j] = rd_T25 l (j : Int) := by
            have := block_Pack.drop hj
            rw [List.drop_eq_getElem_cons hj] at this
            exact (List.cons.inj this).1
          obtain rfl : x = l[j] := by simpa using hx
          rw [e]
          omega
theorem BlockPacks : catchmentlaw10_BlockPacks.Pure := by
  intro l s _ _
  refine ⟨41000, ?_⟩
  unfold catchmentlaw10_BlockPacks.f
  have hm : 0 ≤ mn (l.length : Int) 40 ∧ mn (l.length : Int) 40 ≤ (l.length : Int) ∧ mn (l.length : Int) 40 ≤ 40 := by
    unfold mn
    split <;> omega
  generalize mn (l.length : Int) 40 = m at hm
  rw [if_pos hm.1, if_pos hm.2.1]
  have hl : (l.take m.toNat).length ≤ 40 := by rw [List.length_take]; omega
  exact packs_loop (l.take m.toNat) s hl (l.take m.toNat).length 0 41000 (by omega) (by omega) (fun x hx => by simp at hx)
end Go.Proofs.Ytnklnjghecmihaa.Pure
