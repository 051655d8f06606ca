/- For all texts and every number the law WordCuts answers true: no condition beyond what a Go value of these types can be. -/
import Derived.Test.YtgbnhfppnglamaaQ2x62
import Derived.Test.YtgbnhfppnglamaaBackSpec
set_option linter.unusedVariables false
set_option linter.unusedSimpArgs false
namespace Go.Proofs.Ytgbnhfppnglamaa.Pure
open Go.RowKit Go.Proofs.Ytgbnhfppnglamaa.Q2 Go.Proofs.Ytgbnhfppnglamaa.WordSpec Go.Proofs.Ytgbnhfppnglamaa.NumSpec Go.Proofs.Ytgbnhfppnglamaa.TextSpec Go.Proofs.Ytgbnhfppnglamaa.BackSpec Go.Proofs.YtgbnhfppnglamaaW.PrintWords Go.Proofs.YtgbnhfppnglamaaW.PrintLast Go.Proofs.YtgbnhfppnglamaaW.Ord
theorem cuts_end (k : Nat) (hk : 402 ≤ k) (n : Int) (hn0 : 0 ≤ n) (hn : n ≤ 65535) (l : List ByteArray) (j : Int) (hj : ¬ j < (l.length : Int)) (hl : l.length ≤ 10) (h : ∀ x ∈ l, x.size ≤ 100) : catchmentlaw03_WordCuts.l0 k l n j = some true := by
  obtain ⟨k, rfl⟩ : ∃ m, k = m + 1 := ⟨k - 1, by omega⟩
  have h1 : ∀ x ∈ l, x.size ≤ 1000 := fun x hx => by have := h x hx; omega
  have h3 : ∀ x ∈ l, (x.size : Int) ≤ 100 := fun x hx => by have := h x hx; omega
  have h2 := cat_size l h1
  rw [catchmentlaw03_WordCuts.l0, if_neg hj, texts_f k (by omega) l h1 (by omega), Option.bind_some]
  by_cases hz : ((cat l).size : Int) = 0
  · have hl0 : l.length = 0 := by
      cases l with
      | nil => rfl
      | cons s r =>
        have hs := h1 s (by simp)
        have hp := numS_pos (s.size : Int) (by omega) (by omega)
        have : (cat (s :: r)).size = ((numS (s.size : Int)).size + s.size) + (cat r).size := by rw [cat, txt, ByteArray.size_append, ByteArray.size_append]
        omega
    rw [if_pos hz, live_ge (by omega), Option.bind_some, if_pos rfl, hl0]
    rfl
  · have hw : wrap64 n = n := wrap64_id hn0 (by omega)
    have ht : Int.tmod n ((cat l).size : Int) = n % ((cat l).size : Int) := Int.tmod_eq_emod_of_nonneg hn0
    have hr0 : 0 ≤ n % ((cat l).size : Int) := Int.emod_nonneg _ (by omega)
    have hr1 : n % ((cat l).size : Int) < ((cat l).size : Int) := Int.emod_lt_of_pos _ (by omega)
    rw [if_neg hz, hw, ht]
    generalize n % ((cat l).size : Int) = r at hr0 hr1
    have hp : ((cat l).extract 0 r.toNat).size = r.toNat := by
      have := size_toList (cat l)
      rw [← size_toList, toList_extract, List.drop_zero, List.length_take]
      omega
    have hc := tts_cut 100 l [] ((cat l).extract 0 r.toNat) h3 h1 (by rw [hp, toList_extract, List.drop_zero]) (by omega)
    rw [if_pos hr0, if_pos (by omega), takeTexts_f k _ _ _ (by omega) (by omega) (by omega), Option.bind_some, live_ge (by omega), Option.bind_some, if_pos rfl, Int.toNat_natCast, hc]
    have e : (⟨#[]⟩ : ByteArray).toList = ([] : List UInt8) := toList_empty
    rw [if_pos (by rfl), if_pos e]
    rfl
theorem cuts_loop (n : Int) (hn0 : 0 ≤ n) (hn : n ≤ 65535) (l : List ByteArray) (hl : l.length ≤ 10) : ∀ (d j k : Nat), j + d = l.length → d + 402 ≤ k → (∀ i : Nat, ∀ h : i < l.length, i < j → (l[i]).size ≤ 100) → catchmentlaw03_WordCuts.l0 k l n (j : Int) = some true
  | 0, j, k, hd, hk, h => cuts_end k (by omega) n hn0 hn l j (by omega) hl (fun x hx => by
      obtain ⟨i, hi, rfl⟩ := List.mem_iff_getElem.1 hx
      exact h i hi (by omega))
  | d + 1, j, 0, hd, hk, h => absurd hk (by omega)
  | d + 1, j, k + 1, hd, hk, h => by
    have hj : j < l.length := by omega
    have e1 : wrap64 ((j : Int) + 1) = ((j + 1 : Nat) : Int) := by rw [wrap64_id (by omega) (by omega)]; omega
    rw [catchmentlaw03_WordCuts.l0, if_pos (by omega), if_pos (by omega), rd_at l j hj]
    by_cases hbig : ((l[j]).size : Int) > 100
    · rw [if_pos hbig, live_ge (by omega)]
      rfl
    · rw [if_neg hbig, e1]
      exact cuts_loop n hn0 hn l hl d (j + 1) k (by omega) (by omega) (fun i hi hij => by
        rcases Nat.lt_or_ge i j with h1 | h1
        · exact h i hi h1
        · have : i = j := by omega
          subst this
          omega)
theorem WordCuts : catchmentlaw03_WordCuts.Pure := by
  intro l n _ hn
  have ha : 0 ≤ n ∧ n ≤ 65535 := by simpa [Lit.wf, IntKind.min, IntKind.max, IntKind.signed, IntKind.bits] using hn
  refine ⟨500, ?_⟩
  unfold catchmentlaw03_WordCuts.f
  have hm : 0 ≤ mn (l.length : Int) 10 ∧ mn (l.length : Int) 10 ≤ (l.length : Int) ∧ mn (l.length : Int) 10 ≤ 10 := by
    unfold mn
    split <;> omega
  generalize mn (l.length : Int) 10 = m at hm
  rw [if_pos hm.1, if_pos hm.2.1]
  have hl : (l.take m.toNat).length ≤ 10 := by rw [List.length_take]; omega
  exact cuts_loop n ha.1 ha.2 (l.take m.toNat) hl (l.take m.toNat).length 0 500 (by omega) (by omega) (fun i hi hij => absurd hij (by omega))
end Go.Proofs.Ytgbnhfppnglamaa.Pure
