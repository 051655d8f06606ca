/- For every number, texts and text the law WordBack answers true: no condition beyond what a Go value of these types can be. -/
import Derived.Test.YtgbnhfppnglamaaQ2x61
import Derived.Test.YtgbnhfppnglamaaBackSpec
set_option linter.unusedVariables false
set_option linter.unusedSimpArgs false
namespace Go.Proofs.Ytgbnhfppnglamaa.Pure
open Go.RowKit Go.Proofs.Ytgbnhfppnglamaa.Q2 Go.Proofs.Ytgbnhfppnglamaa.WordSpec Go.Proofs.Ytgbnhfppnglamaa.NumSpec Go.Proofs.Ytgbnhfppnglamaa.TextSpec Go.Proofs.Ytgbnhfppnglamaa.BackSpec Go.Proofs.YtgbnhfppnglamaaW.PrintWords Go.Proofs.YtgbnhfppnglamaaW.PrintLast Go.Proofs.YtgbnhfppnglamaaW.Ord
theorem back_j1 (k : Nat) (hk : 400 ≤ k) (l : List ByteArray) (s : ByteArray) (hl : l.length ≤ 30) (h : ∀ x ∈ l, x.size ≤ 300) (hs : s.size ≤ 1000) : catchmentlaw03_WordBack.j1 k l s false = some true := by
  obtain ⟨k, rfl⟩ : ∃ m, k = m + 1 := ⟨k - 1, by omega⟩
  have h1 : ∀ x ∈ l, x.size ≤ 1000 := fun x hx => by have := h x hx; omega
  have h3 : ∀ x ∈ l, (x.size : Int) ≤ 300 := fun x hx => by have := h x hx; omega
  have h2 := cat_size l h1
  have hz : (cat l ++ s).size = (cat l).size + s.size := ByteArray.size_append
  have he : cat [s] = txt s := by rw [cat, cat, app_nil]
  rw [catchmentlaw03_WordBack.j1, if_neg (by decide), texts_f k (by omega) l h1 (by omega), Option.bind_some, if_pos (by omega), takeTexts_f k _ _ _ (by omega) (by omega) (by omega), Option.bind_some, live_ge (by omega), Option.bind_some, if_pos rfl,
    refTexts_f k (by omega) l h1 (by omega), Option.bind_some, if_pos rfl, Int.toNat_natCast, tts_cat 300 s l [] h3 h1, List.nil_append, if_pos rfl, if_pos rfl, same_f k l (by omega) (by omega), Option.bind_some, if_pos rfl,
    text_f k (by omega) s hs, Option.bind_some, refTexts_f k (by omega) [s] (by simpa using hs) (by simp), Option.bind_some, he]
  simp
theorem back_end (k : Nat) (hk : 402 ≤ k) (n : Int) (l : List ByteArray) (s : ByteArray) (j : Int) (hj : ¬ j < (l.length : Int)) (hl : l.length ≤ 30) (h : ∀ x ∈ l, x.size ≤ 300) : catchmentlaw03_WordBack.l0 k n l s j = some true := by
  obtain ⟨k, rfl⟩ : ∃ m, k = m + 1 := ⟨k - 1, by omega⟩
  rw [catchmentlaw03_WordBack.l0, if_neg hj]
  by_cases hs : (s.size : Int) > 1000
  · rw [if_pos hs, live_ge (by omega)]
    rfl
  · have hb := back_j1 k (by omega) l s hl h (by omega)
    have hn := numS_size n
    have hz : (numS n ++ s).size = (numS n).size + s.size := ByteArray.size_append
    rw [if_neg hs, num_f k (by omega), Option.bind_some, if_pos (by omega), takeNum_f k (by omega) _ (by omega), Option.bind_some]
    by_cases h0 : n ≥ 0
    · rw [if_pos h0]
      by_cases h1 : n ≤ 2147483647
      · have hp := numS_pos n (by omega) h1
        rw [if_pos h1, tn_num n (by omega) h1, if_pos rfl, if_pos rfl, if_pos rfl, if_neg (by omega), decide_eq_false (by omega), hb]
      · rw [if_neg h1, hb]
    · rw [if_neg h0, hb]
theorem back_loop (n : Int) (l : List ByteArray) (s : ByteArray) (hl : l.length ≤ 30) : ∀ (d j k : Nat), j + d = l.length → d + 402 ≤ k → (∀ i : Nat, ∀ h : i < l.length, i < j → (l[i]).size ≤ 300) → catchmentlaw03_WordBack.l0 k n l s (j : Int) = some true
  | 0, j, k, hd, hk, h => back_end k (by omega) n l s j (by omega) hl (fun x hx => by
      obtain ⟨i, hi, rfl⟩ := List.mem_iff_getElem.1 hx
      exact h i hi (by omega))
  | d + 1, j, 0, hd, hk, h => absurd hk (by omega)
  | d + 1, j, k + 1, hd, hk, h => by
    have hj : j < l.length := by omega
    have e1 : wrap64 ((j : Int) + 1) = ((j + 1 : Nat) : Int) := by rw [wrap64_id (by omega) (by omega)]; omega
    rw [catchmentlaw03_WordBack.l0, if_pos (by omega), if_pos (by omega), rd_at l j hj]
    by_cases hbig : ((l[j]).size : Int) > 300
    · rw [if_pos hbig, live_ge (by omega)]
      rfl
    · rw [if_neg hbig, e1]
      exact back_loop n l s hl d (j + 1) k (by omega) (by omega) (fun i hi hij => by
        rcases Nat.lt_or_ge i j with h1 | h1
        · exact h i hi h1
        · have : i = j := by omega
          subst this
          omega)
theorem WordBack : catchmentlaw03_WordBack.Pure := by
  intro n l s _ _ _
  refine ⟨500, ?_⟩
  unfold catchmentlaw03_WordBack.f
  have hm : 0 ≤ mn (l.length : Int) 30 ∧ mn (l.length : Int) 30 ≤ (l.length : Int) ∧ mn (l.length : Int) 30 ≤ 30 := by
    unfold mn
    split <;> omega
  generalize mn (l.length : Int) 30 = m at hm
  rw [if_pos hm.1, if_pos hm.2.1]
  have hl : (l.take m.toNat).length ≤ 30 := by rw [List.length_take]; omega
  exact back_loop n (l.take m.toNat) s hl (l.take m.toNat).length 0 500 (by omega) (by omega) (fun i hi hij => absurd hij (by omega))
end Go.Proofs.Ytgbnhfppnglamaa.Pure
