/- For all pivots, ranges and keys the law PivotParts answers true: no condition beyond what a Go value of these types can be. -/
import Derived.Test.YtgbnhfppnglamaaQ4x26
import Derived.Test.YtgbnhfppnglamaaQ4SPivotSpans
import Derived.Test.YtgbnhfppnglamaaQ4SPivotPart
set_option linter.unusedVariables false
set_option linter.unusedSimpArgs false
namespace Go.Proofs.Ytgbnhfppnglamaa.Pure
open Go.RowKit Go.Proofs.Ytgbnhfppnglamaa.Q4 Go.Proofs.Ytgbnhfppnglamaa.PivotSpec Go.Proofs.YtgbnhfppnglamaaW.PrintWords Go.Proofs.YtgbnhfppnglamaaW.PrintLast Go.Proofs.YtgbnhfppnglamaaW.PrintMore Go.Proofs.YtgbnhfppnglamaaW.Mine Go.Proofs.YtgbnhfppnglamaaW.Ord
theorem plive_60 : catchmentlaw13_live.f 60 = some true := by decide +kernel
theorem plive_ge {k : Nat} (h : 60 ≤ k) : catchmentlaw13_live.f k = some true := by
  obtain ⟨m, rfl⟩ : ∃ m, k = 60 + m := ⟨k - 60, by omega⟩
  induction m with
  | zero => exact plive_60
  | succ m ih => exact catchmentlaw13_live.mono (60 + m) _ (ih (by omega))
def hd (a b s : List UInt8) : Bool := !(Op.bytesLess s a) && ahd s b
theorem holds_f (a b s : ByteArray) : catchmentref02_Holds.f a b s = some (hd a.toList b.toList s.toList) := by
  unfold catchmentref02_Holds.f hd ahd
  cases Op.bytesLess s.toList a.toList with
  | true => rfl
  | false =>
    rw [if_neg (by decide)]
    by_cases hb : b.toList = []
    · simp [hb]
    · simp [hb]
theorem rt_parts {p : List ByteArray} {a b : List UInt8} (h : rt p a b = true) : ahd a b = true ∧ rs p (p.length - 1) 1 = true ∧ (0 < p.length → L a (K p 0) ∧ ahd (K p (p.length - 1)) b = true) := by
  unfold rt at h
  rw [Bool.and_eq_true, Bool.and_eq_true] at h
  refine ⟨h.1, h.2.1, fun h0 => ?_⟩
  have hz : (p.length == 0) = false := by rw [beq_eq_false_iff_ne]; omega
  have h2 := h.2.2
  simp only [hz, Bool.false_or, Bool.and_eq_true] at h2
  exact h2
theorem hd_iff {a b s : List UInt8} : hd a b s = true ↔ ¬ L s a ∧ (b = [] ∨ L s b) := by
  unfold hd ahd L
  cases Op.bytesLess s a <;> cases b <;> simp
theorem ahd_iff {a b : List UInt8} : ahd a b = true ↔ (b = [] ∨ L a b) := by
  unfold ahd L
  cases b <;> simp
theorem part_fst (p : List ByteArray) (a b : ByteArray) (j : Nat) : (pivot_All.part p a b j).1.toList = if j = 0 then a.toList else K p (j - 1) := by
  unfold pivot_All.part K
  by_cases h : j = 0
  · simp [h]
  · simp only [h, if_false]
    rw [show (j : Int) - 1 = ((j - 1 : Nat) : Int) by omega]
theorem part_snd (p : List ByteArray) (a b : ByteArray) (j : Nat) : (pivot_All.part p a b j).2.toList = if j < p.length then K p j else b.toList := by
  unfold pivot_All.part K
  by_cases h : j < p.length
  · simp [h]
  · simp [h]
theorem above (p : List ByteArray) (hs : rs p (p.length - 1) 1 = true) {a : List UInt8} (h : L a (K p 0)) (j : Nat) (hj : j < p.length) : L a (K p j) := by
  by_cases e : j = 0
  · subst e; exact h
  · exact L_trans h (rises_lt p hs 0 j (by omega) hj)
theorem not_nil {a b : List UInt8} (h : L a b) : b ≠ [] := by rintro rfl; exact L_nil_right h
theorem part_holds (p : List ByteArray) (a b s : ByteArray) (hr : rt p a.toList b.toList = true) (c : Nat) (hc : Cut p s.toList c) (j : Nat) (hj : j ≤ p.length) :
    hd (pivot_All.part p a b j).1.toList (pivot_All.part p a b j).2.toList s.toList = (decide (j = c) && hd a.toList b.toList s.toList) := by
  obtain ⟨h1, h2, h3⟩ := rt_parts hr
  obtain ⟨c1, c2, c3⟩ := hc
  rw [Bool.eq_iff_iff, Bool.and_eq_true, hd_iff, hd_iff, part_fst, part_snd, decide_eq_true_eq]
  constructor
  · rintro ⟨g1, g2⟩
    have e : j = c := by
      rcases Nat.lt_trichotomy j c with h | h | h
      · rw [if_pos (by omega)] at g2
        rcases g2 with g2 | g2
        · exact absurd g2 (not_nil (above p h2 (h3 (by omega)).1 j (by omega)))
        · exact absurd g2 (c2 j h)
      · exact h
      · rw [if_neg (by omega)] at g1
        exact absurd (c3 (j - 1) (by omega) (by omega)) g1
    subst e
    refine ⟨rfl, ?_, ?_⟩
    · by_cases e0 : j = 0
      · rw [if_pos e0] at g1; exact g1
      · rw [if_neg e0] at g1
        have := above p h2 (h3 (by omega)).1 (j - 1) (by omega)
        exact fun hx => g1 (L_trans hx this)
    · by_cases e0 : j < p.length
      · rw [if_pos e0] at g2
        have hl := c3 j (Nat.le_refl _) e0
        rcases ahd_iff.1 (h3 (by omega)).2 with hb | hb
        · exact .inl hb
        · right
          by_cases e1 : j = p.length - 1
          · rw [← e1] at hb; exact L_trans hl hb
          · exact L_trans hl (L_trans (rises_lt p h2 j (p.length - 1) (by omega) (by omega)) hb)
      · rw [if_neg e0] at g2; exact g2
  · rintro ⟨rfl, g1, g2⟩
    refine ⟨?_, ?_⟩
    · by_cases e0 : j = 0
      · rw [if_pos e0]; exact g1
      · rw [if_neg e0]; exact c2 (j - 1) (by omega)
    · by_cases e0 : j < p.length
      · rw [if_pos e0]; exact .inr (c3 j (Nat.le_refl _) e0)
      · rw [if_neg e0]; exact g2
theorem parts_at (p : List ByteArray) (a b : ByteArray) (m j : Nat) (h : j < m) : rd_T80 (parts p a b m) (j : Int) = (⟨(pivot_All.part p a b j).1, (pivot_All.part p a b j).2⟩ : S80) := by
  unfold rd_T80 parts pivot_All.upto pivot_All.at
  simp [h]
theorem parts_loop (p : List ByteArray) (hp : p.length < 1000000) (a b s : ByteArray) (hr : rt p a.toList b.toList = true) (c : Nat) (hc : Cut p s.toList c) : ∀ (d j k : Nat), d = p.length + 1 - j → j ≤ p.length + 1 → d + p.length + 100 < k →
    catchmentlaw13_PivotParts.l0 k p s (if c < j ∧ hd a.toList b.toList s.toList = true then 1 else 0) (if c < j ∧ hd a.toList b.toList s.toList = true then (c : Int) else 0) (parts p a b (p.length + 1)) (j : Int) a b = some true
  | d, j, 0, _, _, h => absurd h (by omega)
  | 0, j, k + 1, hd0, hj, hk => by
    have hcn := hc.1
    have hlen := parts_length p a b (p.length + 1)
    rw [catchmentlaw13_PivotParts.l0, if_neg (by omega), part_f p hp s (rt_parts hr).2.1 c hc k (by omega), Option.bind_some, refPart_f p hp s c hc k (by omega), Option.bind_some, if_pos rfl, holds_f, Option.bind_some, plive_ge (by omega)]
    cases hh : hd a.toList b.toList s.toList with
    | true =>
      rw [if_pos rfl, Option.bind_some, if_pos rfl]
      simp [show c < j from by omega]
    | false =>
      rw [if_neg (by decide), Option.bind_some, if_pos rfl, if_neg (fun x => by simp at x)]
      rfl
  | d + 1, j, k + 1, hd0, hj, hk => by
    have hcn := hc.1
    have hlen := parts_length p a b (p.length + 1)
    have e1 : wrap64 ((j : Int) + 1) = ((j + 1 : Nat) : Int) := by rw [wrap64_id (by omega) (by omega)]; omega
    have e2 : wrap64 ((0 : Int) + 1) = 1 := by rw [wrap64_id (by omega) (by omega)]; omega
    have ih := parts_loop p hp a b s hr c hc d (j + 1) k (by omega) (by omega) (by omega)
    rw [catchmentlaw13_PivotParts.l0, if_pos (by omega), if_pos (by omega), parts_at p a b _ j (by omega), holds_f, Option.bind_some, part_holds p a b s hr c hc j (by omega), e1]
    by_cases e : j = c
    · subst e
      cases hh : hd a.toList b.toList s.toList with
      | true =>
        rw [hh, if_pos ⟨by omega, rfl⟩, if_pos ⟨by omega, rfl⟩] at ih
        rw [decide_eq_true rfl, if_pos (by rfl), if_neg (fun x => absurd x.1 (by omega)), e2]
        exact ih
      | false =>
        rw [hh, if_neg (fun x => by simp at x), if_neg (fun x => by simp at x)] at ih
        rw [Bool.and_false, if_neg (by decide), if_neg (fun x => by simp at x), if_neg (fun x => by simp at x)]
        exact ih
    · rw [decide_eq_false e, Bool.false_and, if_neg (by decide)]
      by_cases hcj : c < j
      · have h1 : (c < j + 1 ∧ hd a.toList b.toList s.toList = true) ↔ (c < j ∧ hd a.toList b.toList s.toList = true) := ⟨fun x => ⟨hcj, x.2⟩, fun x => ⟨by omega, x.2⟩⟩
        simp only [h1] at ih
        exact ih
      · have h1 : (c < j + 1 ∧ hd a.toList b.toList s.toList = true) ↔ (c < j ∧ hd a.toList b.toList s.toList = true) := ⟨fun x => absurd x.1 (by omega), fun x => absurd x.1 (by omega)⟩
        simp only [h1] at ih
        exact ih
theorem PivotParts : catchmentlaw13_PivotParts.Pure := by
  intro l y s _ _ _
  refine ⟨1000, ?_⟩
  unfold catchmentlaw13_PivotParts.f
  have hm : 0 ≤ mn (l.length : Int) 30 ∧ mn (l.length : Int) 30 ≤ (l.length : Int) ∧ mn (l.length : Int) 30 ≤ 30 := by
    unfold mn
    split <;> omega
  generalize mn (l.length : Int) 30 = m at hm
  rw [if_pos hm.1, if_pos hm.2.1]
  have hl : (l.take m.toNat).length ≤ 30 := by rw [List.length_take]; omega
  generalize l.take m.toNat = p at hl
  rw [refRight_f p (by omega) 1000 (by omega), Option.bind_some]
  cases hr : rt p y.f0.toList y.f1.toList with
  | false => rw [if_neg (by decide), plive_ge (by omega)]; rfl
  | true =>
    obtain ⟨c, hc⟩ := cut_ex p (rt_parts hr).2.1 s.toList
    have h := parts_loop p (by omega) y.f0 y.f1 s hr c hc (p.length + 1) 0 1000 (by omega) (by omega) (by omega)
    rw [if_neg (fun x => absurd x.1 (by omega)), if_neg (fun x => absurd x.1 (by omega))] at h
    rw [if_pos rfl, spans_f p (by omega) y.f0 y.f1 1000 (by omega), Option.bind_some, hr, if_pos rfl]
    exact h
end Go.Proofs.Ytgbnhfppnglamaa.Pure
