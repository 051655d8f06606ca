/- The order of texts as the machine compares them: a linear order on lists of bytes; the next text; what two texts begin with. No condition. -/
import Derived.Test.YtpfikmchimlneaaWWords
import Derived.Lib.Bytealg
set_option linter.unusedVariables false
set_option linter.unusedSimpArgs false
namespace Go.Proofs.YtpfikmchimlneaaW.Ord
open Go.RowKit
abbrev L (a b : List UInt8) : Prop := Op.bytesLess a b = true
theorem L_irrefl : ∀ a, ¬ L a a
  | [] => by simp [L, Op.bytesLess]
  | x :: a => by
    have := L_irrefl a
    simp only [L, Op.bytesLess] at this ⊢
    simp [this]
theorem L_cons {x y : UInt8} {a b : List UInt8} : L (x :: a) (y :: b) ↔ x < y ∨ x = y ∧ L a b := by
  simp [L, Op.bytesLess]
theorem L_nil_left {b : List UInt8} : L [] b ↔ b ≠ [] := by
  cases b <;> simp [L, Op.bytesLess]
theorem L_nil_right {a : List UInt8} : ¬ L a [] := by
  simp [L, Op.bytesLess]
theorem L_trans : ∀ {a b c : List UInt8}, L a b → L b c → L a c
  | a, b, [], _, h => absurd h L_nil_right
  | a, [], _ :: _, h, _ => absurd h L_nil_right
  | [], _ :: _, _ :: _, _, _ => L_nil_left.2 (by simp)
  | x :: a, y :: b, z :: c, h1, h2 => by
    rw [L_cons] at *
    rcases h1 with h1 | ⟨rfl, h1⟩
    · rcases h2 with h2 | ⟨rfl, h2⟩
      · exact .inl (UInt8.lt_trans h1 h2)
      · exact .inl h1
    · rcases h2 with h2 | ⟨rfl, h2⟩
      · exact .inl h2
      · exact .inr ⟨rfl, L_trans h1 h2⟩
theorem L_asymm {a b : List UInt8} (h : L a b) : ¬ L b a := fun h2 => L_irrefl a (L_trans h h2)
theorem L_total : ∀ (a b : List UInt8), L a b ∨ a = b ∨ L b a
  | [], [] => .inr (.inl rfl)
  | [], _ :: _ => .inl (L_nil_left.2 (by simp))
  | _ :: _, [] => .inr (.inr (L_nil_left.2 (by simp)))
  | x :: a, y :: b => by
    rw [L_cons, L_cons]
    rcases UInt8.lt_or_lt_of_ne (a := x) (b := y) |> fun f => (Classical.em (x = y)).elim (fun e => Or.inr e) (fun e => Or.inl (f e)) with h | rfl
    · rcases h with h | h
      · exact .inl (.inl h)
      · exact .inr (.inr (.inl h))
    · rcases L_total a b with h | rfl | h
      · exact .inl (.inr ⟨rfl, h⟩)
      · exact .inr (.inl rfl)
      · exact .inr (.inr (.inr ⟨rfl, h⟩))
theorem eq_of_not {a b : List UInt8} (h : ¬ L a b) (h2 : ¬ L b a) : a = b := by
  rcases L_total a b with h3 | h3 | h3
  · exact absurd h3 h
  · exact h3
  · exact absurd h3 h2
theorem L_of_ne {a b : List UInt8} (h : ¬ L a b) (h2 : a ≠ b) : L b a := by
  rcases L_total a b with h3 | h3 | h3
  · exact absurd h3 h
  · exact absurd h3 h2
  · exact h3
/-- not above, then above -/
theorem L_of_le {a b c : List UInt8} (h : ¬ L b a) (h2 : L b c) : L a c := by
  rcases L_total a b with h3 | rfl | h3
  · exact L_trans h3 h2
  · exact h2
  · exact absurd h3 h
theorem L_of_lt {a b c : List UInt8} (h : L a b) (h2 : ¬ L c b) : L a c := by
  rcases L_total b c with h3 | rfl | h3
  · exact L_trans h h3
  · exact h
  · exact absurd h3 h2
theorem le_trans {a b c : List UInt8} (h : ¬ L b a) (h2 : ¬ L c b) : ¬ L c a := fun h3 => h2 (L_of_lt h3 (fun h4 => h (h4)))
theorem L_append_zero (a : List UInt8) : L a (a ++ [0]) := by
  induction a with
  | nil => exact L_nil_left.2 (by simp)
  | cons x a ih => exact L_cons.2 (.inr ⟨rfl, ih⟩)
/-- No text lies between one and the next one. -/
theorem L_next : ∀ {a b : List UInt8}, L b (a ++ [0]) ↔ ¬ L a b
  | [], [] => by simp [L, Op.bytesLess]
  | [], y :: b => by
    simp only [List.nil_append, L_cons, L_nil_right, and_false, or_false, L_nil_left]
    simp
  | x :: a, [] => by
    simp [L_nil_left, L_nil_right]
  | x :: a, y :: b => by
    simp only [List.cons_append, L_cons, L_next (a := a) (b := b)]
    constructor
    · rintro (h | ⟨rfl, h⟩)
      · rintro (h2 | ⟨rfl, h2⟩)
        · exact UInt8.lt_asymm h h2
        · exact UInt8.lt_irrefl _ h
      · rintro (h2 | ⟨_, h2⟩)
        · exact UInt8.lt_irrefl _ h2
        · exact h h2
    · intro h
      by_cases e : y = x
      · exact .inr ⟨e, fun h2 => h (.inr ⟨e.symm, h2⟩)⟩
      · exact .inl (by
          rcases UInt8.lt_or_lt_of_ne e with h2 | h2
          · exact h2
          · exact absurd (.inl h2) h)
theorem nil_not_above {a : List UInt8} (h : a ≠ []) : L [] a := L_nil_left.2 h
/-- strings.Compare's number -/
theorem compare_ge : ∀ (a b : List UInt8), (Lib.compareBytes a b ≥ 0) ↔ ¬ L a b
  | [], [] => by simp [Lib.compareBytes, L, Op.bytesLess]
  | [], _ :: _ => by simp [Lib.compareBytes, L, Op.bytesLess]
  | _ :: _, [] => by simp [Lib.compareBytes, L, Op.bytesLess]
  | x :: a, y :: b => by
    have ih := compare_ge a b
    rw [L_cons]
    unfold Lib.compareBytes
    by_cases h : x < y
    · simp [h]
    · rw [if_neg h]
      by_cases h2 : y < x
      · rw [if_pos h2]
        have : x ≠ y := by rintro rfl; exact UInt8.lt_irrefl _ h2
        simp [h, this]
      · rw [if_neg h2, ih]
        have : x = y := by
          rcases Classical.em (x = y) with e | e
          · exact e
          · rcases UInt8.lt_or_lt_of_ne e with h3 | h3
            · exact absurd h3 h
            · exact absurd h3 h2
        simp [h, this]
theorem toList_data (s : ByteArray) : s.toList = s.data.toList := Lib.toList_data s
theorem size_toList (s : ByteArray) : s.toList.length = s.size := by rw [toList_data]; simp
theorem bytes_ext {a b : ByteArray} (h : a.toList = b.toList) : a = b := by
  rw [toList_data, toList_data] at h
  cases a; cases b
  simp only [ByteArray.mk.injEq]
  exact Array.ext' h
theorem toList_append (a b : ByteArray) : (a ++ b).toList = a.toList ++ b.toList := by
  rw [toList_data, toList_data, toList_data]; simp
theorem toList_extract (s : ByteArray) (i j : Nat) : (s.extract i j).toList = (s.toList.take j).drop i := by
  rw [toList_data, toList_data]; simp [List.drop_take]
theorem toList_lit (l : List UInt8) : (⟨l.toArray⟩ : ByteArray).toList = l := by
  rw [toList_data]
theorem toList_empty : (⟨#[]⟩ : ByteArray).toList = [] := by
  rw [toList_data]
theorem toList_eq_nil {s : ByteArray} : s.toList = [] ↔ s.size = 0 := by
  rw [← size_toList, List.length_eq_zero_iff]
theorem bt_toList (s : ByteArray) (i : Nat) (h : i < s.size) : PrintWords.bt s (i : Int) = ((s.toList[i]'(by rw [size_toList]; exact h)).toNat : Int) := by
  unfold PrintWords.bt
  rw [dif_pos (by simpa using h)]
  simp only [Int.toNat_natCast, toList_data]
  rfl
end Go.Proofs.YtpfikmchimlneaaW.Ord
