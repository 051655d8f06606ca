/- For all entries and every text the law BlockBack answers true: no condition beyond what a Go value of these types can be. -/
import Derived.Test.YtnklnjghecmihaaH6x39
import Derived.Test.YtnklnjghecmihaaInvSpec
set_option linter.unusedVariables false
set_option linter.unusedSimpArgs false
namespace Go.Proofs.Ytnklnjghecmihaa.Pure
open Go.RowKit Go.Proofs.Ytnklnjghecmihaa.H6 Go.Proofs.Ytnklnjghecmihaa.NumSpec Go.Proofs.Ytnklnjghecmihaa.UnpSpec Go.Proofs.Ytnklnjghecmihaa.PackSpec Go.Proofs.Ytnklnjghecmihaa.InvSpec Go.Proofs.YtnklnjghecmihaaW.PrintWords Go.Proofs.YtnklnjghecmihaaW.PrintLast Go.Proofs.YtnklnjghecmihaaW.PrintMore Go.Proofs.YtnklnjghecmihaaW.Mine Go.Proofs.YtnklnjghecmihaaW.Ord
theorem back_end (k : Nat) (hk : 600000 ≤ k) (l : List S25) (hl : l.length ≤ 40) (hF : ∀ x ∈ l, x.f0.size ≤ 256 ∧ x.f1.size ≤ 4096) (hr : rl ⟨#[]⟩ true l = true) : catchmentlaw10_BlockBack.l0 k l (l.length : Int) = some true := by
  obtain ⟨k, rfl⟩ : ∃ m, k = m + 1 := ⟨k - 1, by omega⟩
  have hF2 : Fits l := fun x hx => by have := hF x hx; omega
  have hz := pack_size l hF2
  have e1 : block_Unpack.f k (pack l) = some (unp (pack l)) := unpack_f k (pack l) (by omega) (by omega)
  rw [catchmentlaw10_BlockBack.l0, if_neg (by omega), pack_f k l hF2 (by omega) (by omega), Option.bind_some, e1, Option.bind_some, hlive_ge (by omega), Option.bind_some, if_pos rfl, unp_pack l (by omega) hF hr, if_pos rfl, same_f l (by omega) k (by omega)]
  rfl
theorem back_loop (l : List S25) (hl : l.length ≤ 40) (hr : rl ⟨#[]⟩ true l = true) : ∀ (d j k : Nat), j + d = l.length → d + 600000 ≤ k → (∀ x ∈ l.take j, x.f0.size ≤ 256 ∧ x.f1.size ≤ 4096) → catchmentlaw10_BlockBack.l0 k l (j : Int) = some true
  | 0, j, k, hd, hk, h => by
    obtain rfl : j = l.length := by omega
    rw [List.take_length] at h
    exact back_end k (by omega) l hl h hr
  | d + 1, j, 0, hd, hk, h => absurd hk (by omega)
  | d + 1, j, k + 1, hd, hk, h => by
    have hj : j < l.length := by omega
    have e1 : wrap64 ((j : Int) + 1) = ((j + 1 : Nat) : Int) := by rw [wrap64_id (by omega) (by omega)]; omega
    rw [catchmentlaw10_BlockBack.l0, if_pos (by omega), if_pos (by omega)]
    by_cases b1 : (((rd_T25 l (j : Int)).f0).size : Int) > 256
    · rw [if_pos b1, hlive_ge (by omega)]
      rfl
    · rw [if_neg b1]
      by_cases b2 : (((rd_T25 l (j : Int)).f1).size : Int) > 4096
      · rw [if_pos b2, hlive_ge (by omega)]
        rfl
      · rw [if_neg b2, e1]
        refine back_loop l hl hr d (j + 1) k (by omega) (by omega) (fun x hx => ?_)
        rw [List.take_succ_eq_append_getElem hj] at hx
        rcases List.mem_append.1 hx with hx | hx
        · exact h x hx
        · have e : l[j] = rd_T25 l (j : Int) := by
            have := block_Pack.drop hj
            rw [List.drop_eq_getElem_cons hj] at this
            exact (List.cons.inj this).1
          obtain rfl : x = l[j] := by simpa using hx
          rw [e]
          omega
theorem back_j0 (l : List S25) (hl : l.length ≤ 40) (k : Nat) (hk : 700000 ≤ k) : catchmentlaw10_BlockBack.j0 k l false = some true := by
  obtain ⟨k, rfl⟩ : ∃ m, k = m + 1 := ⟨k - 1, by omega⟩
  rw [catchmentlaw10_BlockBack.j0, if_neg (by decide), refRises_f l (by omega) k (by omega), Option.bind_some]
  by_cases hr : rl ⟨#[]⟩ true l = true
  · rw [if_pos hr]
    exact back_loop l hl hr l.length 0 k (by omega) (by omega) (fun x hx => by simp at hx)
  · rw [if_neg hr, hlive_ge (by omega), Option.bind_some, if_pos rfl, pack_no k l (by omega) (by omega) (by simpa using hr), Option.bind_some, toList_empty]
    rfl
theorem back_f (l : List S25) (s : ByteArray) (k : Nat) (hk : 700000 ≤ k) : catchmentlaw10_BlockBack.f k l s = some true := by
  unfold catchmentlaw10_BlockBack.f
  have hm : 0 ≤ mn (l.length : Int) 40 ∧ mn (l.length : Int) 40 ≤ (l.length : Int) ∧ mn (l.length : Int) 40 ≤ 40 := by
    unfold mn
    split <;> omega
  generalize mn (l.length : Int) 40 = m at hm
  rw [if_pos hm.1, if_pos hm.2.1, Option.bind_some]
  have hl : (l.take m.toNat).length ≤ 40 := by rw [List.length_take]; omega
  generalize l.take m.toNat = p at hl
  by_cases hs : (s.size : Int) > 4000
  · rw [if_pos hs, hlive_ge (by omega)]
    rfl
  · have e1 : block_Unpack.f k s = some (unp s) := unpack_f k s (by omega) (by omega)
    have hn := unp_len s
    rw [if_neg hs, e1, Option.bind_some]
    by_cases h : (unp s).2 = 0
    · obtain ⟨hF, hp⟩ := unp_fits s (by omega) h
      rw [if_pos h, pack_f k _ hF (by omega) (by omega), Option.bind_some, hp, show (s.toList != s.toList) = false from by simp, back_j0 p hl k hk]
    · rw [if_neg h, back_j0 p hl k hk]
theorem BlockBack : catchmentlaw10_BlockBack.Pure := fun l s _ _ => ⟨700000, back_f l s 700000 (Nat.le_refl _)⟩
end Go.Proofs.Ytnklnjghecmihaa.Pure
