/- What the functions of the packages pivot and catchmentref13 answer, as plain functions. No condition but the sizes that a Go value has. -/
import Derived.Test.YtgbnhfppnglamaaQ5x2
import Derived.Test.YtgbnhfppnglamaaQ5x3
import Derived.Test.YtgbnhfppnglamaaMine
set_option linter.unusedVariables false
set_option linter.unusedSimpArgs false
namespace Go.Proofs.Ytgbnhfppnglamaa.PivotSpec
open Go.RowKit Go.Proofs.Ytgbnhfppnglamaa.Q5 Go.Proofs.YtgbnhfppnglamaaW.PrintWords Go.Proofs.YtgbnhfppnglamaaW.PrintLast Go.Proofs.YtgbnhfppnglamaaW.PrintMore Go.Proofs.YtgbnhfppnglamaaW.Mine Go.Proofs.YtgbnhfppnglamaaW.Ord
theorem wrap64_id {n : Int} (h0 : 0 ≤ n) (h1 : n < 9223372036854775808) : wrap64 n = n := by unfold wrap64; omega
/-- the pivot i, as bytes -/
def K (p : List ByteArray) (i : Nat) : List UInt8 := (rdOf ByteArray.empty p (i : Int)).toList
/-- do d pivots from i on rise? -/
def rs (p : List ByteArray) : Nat → Nat → Bool
  | 0, _ => true
  | d + 1, i => Op.bytesLess (K p (i - 1)) (K p i) && rs p d (i + 1)
theorem refRises_loop (p : List ByteArray) (hp : p.length < 1000000) : ∀ (d i k : Nat), 1 ≤ i → d = p.length - i → d < k → catchmentref13_Rises.l0 k p (i : Int) = some (rs p d i)
  | d, i, 0, _, _, h => absurd h (by omega)
  | 0, i, k + 1, h1, hd, hk => by rw [catchmentref13_Rises.l0, if_neg (by omega), rs]
  | d + 1, i, k + 1, h1, hd, hk => by
    have e1 : wrap64 ((i : Int) + 1) = ((i + 1 : Nat) : Int) := by rw [wrap64_id (by omega) (by omega)]; omega
    have e2 : wrap64 ((i : Int) - 1) = ((i - 1 : Nat) : Int) := by rw [wrap64_id (by omega) (by omega)]; omega
    rw [catchmentref13_Rises.l0, if_pos (by omega), e2, if_pos (by omega), if_pos (by omega), if_pos (by omega), e1, rs, refRises_loop p hp d (i + 1) k (by omega) (by omega) (by omega)]
    show (if (Op.bytesLess (K p (i - 1)) (K p i)) = true then _ else _) = _
    cases Op.bytesLess (K p (i - 1)) (K p i) <;> simp
theorem refRises_f (p : List ByteArray) (hp : p.length < 1000000) (k : Nat) (hk : p.length < k) : catchmentref13_Rises.f k p = some (rs p (p.length - 1) 1) := by
  unfold catchmentref13_Rises.f
  exact refRises_loop p hp _ 1 k (by omega) rfl (by omega)
theorem rises_loop (p : List ByteArray) (hp : p.length < 1000000) : ∀ (d i k : Nat), 1 ≤ i → d = p.length - i → d < k → pivot_rises.l0 k p (p.length : Int) (i : Int) = some (rs p d i)
  | d, i, 0, _, _, h => absurd h (by omega)
  | 0, i, k + 1, h1, hd, hk => by rw [pivot_rises.l0, if_neg (by omega), rs]
  | d + 1, i, k + 1, h1, hd, hk => by
    have e1 : wrap64 ((i : Int) + 1) = ((i + 1 : Nat) : Int) := by rw [wrap64_id (by omega) (by omega)]; omega
    have e2 : wrap64 ((i : Int) - 1) = ((i - 1 : Nat) : Int) := by rw [wrap64_id (by omega) (by omega)]; omega
    rw [pivot_rises.l0, if_pos (by omega), if_pos (by omega), e2, if_pos (by omega), if_pos (by omega), if_pos (by omega), if_pos (by omega), e1, rs, rises_loop p hp d (i + 1) k (by omega) (by omega) (by omega)]
    show (if (Op.bytesLess (K p (i - 1)) (K p i)) = true then _ else _) = _
    cases Op.bytesLess (K p (i - 1)) (K p i) <;> simp
theorem rises_f (p : List ByteArray) (hp : p.length < 1000000) (k : Nat) (hk : p.length + 1 < k) : pivot_rises.f k p = some (rs p (p.length - 1) 1) := by
  obtain ⟨k, rfl⟩ : ∃ m, k = m + 1 := ⟨k - 1, by omega⟩
  unfold pivot_rises.f
  rw [pivot_rises.l0]
  by_cases h : (0 : Int) < (p.length : Int)
  · have e1 : wrap64 ((0 : Int) + 1) = ((1 : Nat) : Int) := by rw [wrap64_id (by omega) (by omega)]; omega
    rw [if_pos h, if_neg (by omega), e1, rises_loop p hp (p.length - 1) 1 k (by omega) rfl (by omega)]
  · rw [if_neg h, show p.length - 1 = 0 by omega, rs]
theorem rs_at (p : List ByteArray) : ∀ (d i j : Nat), rs p d i = true → i ≤ j → j < i + d → L (K p (j - 1)) (K p j)
  | 0, i, j, _, h1, h2 => absurd h2 (by omega)
  | d + 1, i, j, h, h1, h2 => by
    rw [rs, Bool.and_eq_true] at h
    by_cases e : j = i
    · subst e; exact h.1
    · exact rs_at p d (i + 1) j h.2 (by omega) (by omega)
/-- pivots that rise: a greater place has a greater one -/
theorem rises_lt (p : List ByteArray) (h : rs p (p.length - 1) 1 = true) (i : Nat) : ∀ j : Nat, i < j → j < p.length → L (K p i) (K p j)
  | 0, h1, _ => absurd h1 (by omega)
  | j + 1, h1, h2 => by
    have hs := rs_at p (p.length - 1) 1 (j + 1) h (by omega) (by omega)
    rw [show j + 1 - 1 = j by omega] at hs
    by_cases e : i = j
    · subst e; exact hs
    · exact L_trans (rises_lt p h i j (by omega) (by omega)) hs
/-- is a key ahead of an end -/
def ahd (a e : List UInt8) : Bool := e.isEmpty || Op.bytesLess a e
theorem rightRange_f (a b : ByteArray) : key_RightRange.f a b = some (ahd a.toList b.toList) := by
  unfold key_RightRange.f key_ahead.f ahd
  by_cases h : b.toList = []
  · simp [h]
  · simp [h]
theorem refRange_f (a b : ByteArray) : catchmentref02_Right.f a b = some (ahd a.toList b.toList) := by
  unfold catchmentref02_Right.f ahd
  by_cases h : b.toList = []
  · simp [h]
  · simp [h]
def rt (p : List ByteArray) (a b : List UInt8) : Bool := ahd a b && (rs p (p.length - 1) 1 && (p.length == 0 || (Op.bytesLess a (K p 0) && ahd (K p (p.length - 1)) b)))
theorem right_f (p : List ByteArray) (hp : p.length < 1000000) (k : Nat) (hk : p.length + 1 < k) (a b : ByteArray) : pivot_Right.f k p a b = some (rt p a.toList b.toList) := by
  unfold pivot_Right.f rt
  rw [rightRange_f, Option.bind_some, rises_f p hp k hk]
  cases ahd a.toList b.toList with
  | false => rfl
  | true =>
    rw [if_pos rfl, Option.bind_some]
    cases rs p (p.length - 1) 1 with
    | false => rfl
    | true =>
      rw [if_pos rfl]
      by_cases h0 : (p.length : Int) = 0
      · have h0' : p.length = 0 := by omega
        rw [if_pos h0, h0']
        rfl
      · have e2 : wrap64 ((p.length : Int) - 1) = ((p.length - 1 : Nat) : Int) := by rw [wrap64_id (by omega) (by omega)]; omega
        rw [if_neg h0, if_pos (by omega), e2]
        have hz : (p.length == 0) = false := by
          rw [beq_eq_false_iff_ne]
          intro e
          exact h0 (by rw [e]; rfl)
        rw [hz]
        show (if Op.bytesLess a.toList (K p 0) = true then _ else _) = _
        cases Op.bytesLess a.toList (K p 0) with
        | false => rfl
        | true =>
          rw [if_pos rfl]
          unfold ahd
          by_cases hb : b.toList = []
          · simp [hb]
          · rw [if_neg hb, if_pos (by omega), if_pos (by omega)]
            have : b.toList.isEmpty = false := by simp [hb]
            rw [this]
            rfl
/-- do d pivots from i on lie in a range -/
def bw (p : List ByteArray) (a b : List UInt8) : Nat → Nat → Bool
  | 0, _ => true
  | d + 1, i => (Op.bytesLess a (K p i) && ahd (K p i) b) && bw p a b d (i + 1)
theorem refRight_loop (p : List ByteArray) (hp : p.length < 1000000) (a b : ByteArray) : ∀ (d i k : Nat), d = p.length - i → i ≤ p.length → d + p.length + 2 < k → catchmentref13_Right.l0 k p (i : Int) a b = some (bw p a.toList b.toList d i && (ahd a.toList b.toList && rs p (p.length - 1) 1))
  | d, i, 0, _, _, h => absurd h (by omega)
  | 0, i, k + 1, hd, hi, hk => by
    rw [catchmentref13_Right.l0, if_neg (by omega), refRange_f, Option.bind_some, refRises_f p hp k (by omega), bw]
    cases ahd a.toList b.toList <;> rfl
  | d + 1, i, k + 1, hd, hi, hk => by
    have e1 : wrap64 ((i : Int) + 1) = ((i + 1 : Nat) : Int) := by rw [wrap64_id (by omega) (by omega)]; omega
    rw [catchmentref13_Right.l0, if_pos (by omega), if_pos (by omega), e1, bw, refRight_loop p hp a b d (i + 1) k (by omega) (by omega) (by omega)]
    show (if Op.bytesLess a.toList (K p i) = true then (if b.toList = ([] : List UInt8) then _ else (if Op.bytesLess (K p i) b.toList = true then _ else _)) else _) = _
    unfold ahd
    generalize bw p a.toList b.toList d (i + 1) = u
    cases Op.bytesLess a.toList (K p i) with
    | false => rfl
    | true =>
      rw [if_pos rfl]
      by_cases hb : b.toList = []
      · simp [hb]
      · have : b.toList.isEmpty = false := by simp [hb]
        rw [if_neg hb, this]
        cases Op.bytesLess (K p i) b.toList <;> simp
theorem bw_true (p : List ByteArray) (a b : List UInt8) : ∀ (d i : Nat), (∀ j, i ≤ j → j < i + d → Op.bytesLess a (K p j) = true ∧ ahd (K p j) b = true) → bw p a b d i = true
  | 0, _, _ => rfl
  | d + 1, i, h => by
    rw [bw, (h i (by omega) (by omega)).1, (h i (by omega) (by omega)).2, bw_true p a b d (i + 1) (fun j h1 h2 => h j (by omega) (by omega))]
    rfl
theorem bw_at (p : List ByteArray) (a b : List UInt8) : ∀ (d i j : Nat), bw p a b d i = true → i ≤ j → j < i + d → Op.bytesLess a (K p j) = true ∧ ahd (K p j) b = true
  | 0, i, j, _, h1, h2 => absurd h2 (by omega)
  | d + 1, i, j, h, h1, h2 => by
    rw [bw, Bool.and_eq_true, Bool.and_eq_true] at h
    by_cases e : j = i
    · subst e; exact h.1
    · exact bw_at p a b d (i + 1) j h.2 (by omega) (by omega)
theorem refRight_f (p : List ByteArray) (hp : p.length < 1000000) (k : Nat) (hk : 2 * p.length + 2 < k) (a b : ByteArray) : catchmentref13_Right.f k p a b = some (rt p a.toList b.toList) := by
  unfold catchmentref13_Right.f
  have h := refRight_loop p hp a b p.length 0 k (by omega) (by omega) (by omega)
  rw [show ((0 : Nat) : Int) = 0 from rfl] at h
  rw [h]
  congr 1
  unfold rt
  cases ha : ahd a.toList b.toList with
  | false => simp
  | true =>
    cases hr : rs p (p.length - 1) 1 with
    | false => simp
    | true =>
      rw [Bool.true_and, Bool.true_and, Bool.and_true, Bool.eq_iff_iff]
      constructor
      · intro hb
        by_cases h0 : p.length = 0
        · simp [h0]
        · have h1 := bw_at p _ _ _ 0 0 hb (by omega) (by omega)
          have h2 := bw_at p _ _ _ 0 (p.length - 1) hb (by omega) (by omega)
          rw [h1.1, h2.2]
          simp
      · intro hb
        refine bw_true p _ _ _ 0 fun j h1 h2 => ?_
        have h0 : (p.length == 0) = false := by rw [beq_eq_false_iff_ne]; omega
        simp only [h0, Bool.false_or, Bool.true_and, Bool.and_eq_true] at hb
        refine ⟨?_, ?_⟩
        · by_cases e : j = 0
          · subst e; exact hb.1
          · exact L_trans (show L a.toList (K p 0) from hb.1) (rises_lt p hr 0 j (by omega) (by omega))
        · by_cases e : j = p.length - 1
          · subst e; exact hb.2
          · have h3 := rises_lt p hr j (p.length - 1) (by omega) (by omega)
            have h4 := hb.2
            unfold ahd at h4 ⊢
            rw [Bool.or_eq_true] at h4 ⊢
            exact h4.imp id (fun h5 => L_trans h3 h5)
end Go.Proofs.Ytgbnhfppnglamaa.PivotSpec
