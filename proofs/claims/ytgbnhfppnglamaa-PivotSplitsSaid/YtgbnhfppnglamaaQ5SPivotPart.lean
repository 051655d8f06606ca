/- What pivot.Part and catchmentref13.Part answer of pivots that rise: how many of them are not above a key. -/
import Derived.Test.YtgbnhfppnglamaaQ5x3
import Derived.Test.YtgbnhfppnglamaaQ5SPivotSpec
set_option linter.unusedVariables false
set_option linter.unusedSimpArgs false
namespace Go.Proofs.Ytgbnhfppnglamaa.PivotSpec
open Go.RowKit Go.Proofs.Ytgbnhfppnglamaa.Q5 Go.Proofs.YtgbnhfppnglamaaW.PrintWords Go.Proofs.YtgbnhfppnglamaaW.PrintLast Go.Proofs.YtgbnhfppnglamaaW.PrintMore Go.Proofs.YtgbnhfppnglamaaW.Mine Go.Proofs.YtgbnhfppnglamaaW.Ord
/-- c pivots are not above s, the others are -/
def Cut (p : List ByteArray) (s : List UInt8) (c : Nat) : Prop := c ≤ p.length ∧ (∀ j, j < c → ¬ L s (K p j)) ∧ (∀ j, c ≤ j → j < p.length → L s (K p j))
theorem cut_upto (p : List ByteArray) (h : rs p (p.length - 1) 1 = true) (s : List UInt8) : ∀ m, m ≤ p.length → ∃ c, c ≤ m ∧ (∀ j, j < c → ¬ L s (K p j)) ∧ (∀ j, c ≤ j → j < m → L s (K p j))
  | 0, _ => ⟨0, by omega, fun j hj => absurd hj (by omega), fun j h1 h2 => absurd h2 (by omega)⟩
  | m + 1, hm => by
    obtain ⟨c, h1, h2, h3⟩ := cut_upto p h s m (by omega)
    by_cases hc : c < m
    · refine ⟨c, by omega, h2, fun j h4 h5 => ?_⟩
      by_cases e : j = m
      · subst e
        exact L_trans (h3 c (by omega) hc) (rises_lt p h c j hc (by omega))
      · exact h3 j h4 (by omega)
    · obtain rfl : c = m := by omega
      by_cases hl : L s (K p c)
      · exact ⟨c, by omega, h2, fun j h4 h5 => by rw [show j = c by omega]; exact hl⟩
      · refine ⟨c + 1, by omega, fun j hj => ?_, fun j h4 h5 => absurd h5 (by omega)⟩
        by_cases e : j = c
        · subst e; exact hl
        · exact h2 j (by omega)
theorem cut_ex (p : List ByteArray) (h : rs p (p.length - 1) 1 = true) (s : List UInt8) : ∃ c, Cut p s c := cut_upto p h s p.length (Nat.le_refl _)
theorem less_f (a b : ByteArray) : cmp_Less_string.f a b = some (Op.bytesLess a.toList b.toList) := by
  have h : (a.toList != a.toList) = false := by simp
  unfold cmp_Less_string.f cmp_isNaN_string.f
  rw [Option.bind_some, h, if_neg (by decide)]
theorem search_end (p : List ByteArray) (hp : p.length < 1000000) (s : ByteArray) (lo k : Nat) (hlo : lo ≤ p.length) : slices_BinarySearch_string_string.l0 (k + 1) p s (p.length : Int) (lo : Int) (lo : Int) = some ((lo : Int), decide (lo < p.length ∧ K p lo = s.toList)) := by
  rw [slices_BinarySearch_string_string.l0, if_neg (by omega)]
  by_cases h : lo < p.length
  · rw [if_pos (by omega), if_pos (by omega), if_pos (by omega)]
    show (if K p lo = s.toList then _ else _) = _
    by_cases e : K p lo = s.toList
    · rw [if_pos e, decide_eq_true ⟨h, e⟩]
    · have hn : ∀ x : ByteArray, (x.toList != x.toList) = false := fun x => by simp
      unfold slices_isNaN_string.f
      rw [if_neg e, Option.bind_some, hn, if_neg (by decide), decide_eq_false (fun x => e x.2)]
  · rw [if_neg (by omega), decide_eq_false (fun x => h x.1)]
theorem search_loop (p : List ByteArray) (hp : p.length < 1000000) (s : ByteArray) : ∀ (k lo hi : Nat), lo ≤ hi → hi ≤ p.length → hi - lo < k → (∀ j, j < lo → L (K p j) s.toList) → (∀ j, hi ≤ j → j < p.length → ¬ L (K p j) s.toList) → rs p (p.length - 1) 1 = true →
    ∃ i : Nat, i ≤ p.length ∧ (∀ j, j < i → L (K p j) s.toList) ∧ (∀ j, i ≤ j → j < p.length → ¬ L (K p j) s.toList) ∧ slices_BinarySearch_string_string.l0 k p s (p.length : Int) (lo : Int) (hi : Int) = some ((i : Int), decide (i < p.length ∧ K p i = s.toList))
  | 0, lo, hi, _, _, h, _, _, _ => absurd h (by omega)
  | k + 1, lo, hi, h1, h2, hk, hl, hh, hr => by
    by_cases e : lo = hi
    · subst e
      exact ⟨lo, h2, hl, hh, search_end p hp s lo k h2⟩
    · have em : wrap64 ((IntKind.u64.wrap (wrap64 ((lo : Int) + (hi : Int)))) / 2) = (((lo + hi) / 2 : Nat) : Int) := by
        have e0 : IntKind.u64.wrap ((lo : Int) + (hi : Int)) = (lo : Int) + (hi : Int) := by
          simp [IntKind.wrap, IntKind.signed, IntKind.bits]
          omega
        rw [wrap64_id (n := (lo : Int) + (hi : Int)) (by omega) (by omega), e0, wrap64_id (by omega) (by omega)]
        omega
      have e1 : wrap64 ((((lo + hi) / 2 : Nat) : Int) + 1) = (((lo + hi) / 2 + 1 : Nat) : Int) := by rw [wrap64_id (by omega) (by omega)]; omega
      have hm1 : lo ≤ (lo + hi) / 2 := by omega
      have hm2 : (lo + hi) / 2 < hi := by omega
      rw [slices_BinarySearch_string_string.l0, if_pos (by omega), em, e1]
      generalize (lo + hi) / 2 = m at hm1 hm2
      rw [if_pos (by omega), if_pos (by omega), less_f, Option.bind_some]
      show ∃ i : Nat, _ ∧ _ ∧ _ ∧ (if Op.bytesLess (K p m) s.toList = true then _ else _) = _
      by_cases hlt : L (K p m) s.toList
      · rw [if_pos hlt]
        refine search_loop p hp s k (m + 1) hi (by omega) h2 (by omega) (fun j hj => ?_) hh hr
        by_cases ej : j = m
        · subst ej; exact hlt
        · exact L_trans (rises_lt p hr j m (by omega) (by omega)) hlt
      · rw [if_neg hlt]
        refine search_loop p hp s k lo m (by omega) (by omega) (by omega) hl (fun j hj1 hj2 => ?_) hr
        by_cases ej : j = m
        · subst ej; exact hlt
        · exact fun hx => hlt (L_trans (rises_lt p hr m j (by omega) hj2) hx)
theorem part_f (p : List ByteArray) (hp : p.length < 1000000) (s : ByteArray) (hr : rs p (p.length - 1) 1 = true) (c : Nat) (hc : Cut p s.toList c) (k : Nat) (hk : p.length < k) : pivot_Part.f k p s = some ((c : Nat) : Int) := by
  obtain ⟨i, h1, h2, h3, h4⟩ := search_loop p hp s k 0 p.length (by omega) (by omega) (by omega) (fun j hj => absurd hj (by omega)) (fun j hj1 hj2 => absurd hj2 (by omega)) hr
  unfold pivot_Part.f slices_BinarySearch_string_string.f
  rw [show ((0 : Nat) : Int) = 0 from rfl] at h4
  rw [h4, Option.bind_some]
  have hcn := hc.1
  by_cases e : i < p.length ∧ K p i = s.toList
  · have e1 : wrap64 ((i : Int) + 1) = ((i + 1 : Nat) : Int) := by rw [wrap64_id (by omega) (by omega)]; omega
    rw [decide_eq_true e, if_pos rfl, e1]
    have : c = i + 1 := by
      rcases Nat.lt_trichotomy c (i + 1) with h | h | h
      · have hx := hc.2.2 i (by omega) e.1
        rw [e.2] at hx
        exact absurd hx (L_irrefl _)
      · exact h
      · have hx := hc.2.1 (i + 1) h
        exact absurd (by rw [← e.2]; exact rises_lt p hr i (i + 1) (by omega) (by omega)) hx
    rw [this]
  · rw [decide_eq_false e, if_neg (by simp)]
    have : c = i := by
      rcases Nat.lt_trichotomy c i with h | h | h
      · exact absurd (h2 c h) (L_asymm (hc.2.2 c (by omega) (by omega)))
      · exact h
      · have hx := hc.2.1 i h
        have hy := h3 i (by omega) (by omega)
        exact absurd ⟨by omega, eq_of_not hy hx⟩ e
    rw [this]
end Go.Proofs.Ytgbnhfppnglamaa.PivotSpec
