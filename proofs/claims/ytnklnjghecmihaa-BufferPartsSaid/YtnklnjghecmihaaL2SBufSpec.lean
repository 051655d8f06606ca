/- Messages, their spans, and what catchmentref12.Right answers, as plain functions. No condition but the sizes that a Go value has. -/
import Derived.Test.YtnklnjghecmihaaL2x9
import Derived.Test.YtnklnjghecmihaaL2x34
import Derived.Test.YtnklnjghecmihaaL2x30
import Derived.Test.YtnklnjghecmihaaL2x44
import Derived.Test.YtnklnjghecmihaaL2V0
set_option linter.unusedVariables false
set_option linter.unusedSimpArgs false
namespace Go.Proofs.Ytnklnjghecmihaa.BufSpec
open Go.RowKit Go.Proofs.Ytnklnjghecmihaa.L2 Go.Proofs.YtnklnjghecmihaaW.PrintWords Go.Proofs.YtnklnjghecmihaaW.PrintLast Go.Proofs.YtnklnjghecmihaaW.PrintMore Go.Proofs.YtnklnjghecmihaaW.Mine Go.Proofs.YtnklnjghecmihaaW.Ord
theorem wrap64_id {n : Int} (h0 : 0 ≤ n) (h1 : n < 9223372036854775808) : wrap64 n = n := by unfold wrap64; omega
/-- before an end? -/
def ahd (a e : List UInt8) : Bool := e.isEmpty || Op.bytesLess a e
/-- one end before another one? -/
def bef (a b : List UInt8) : Bool := !a.isEmpty && (b.isEmpty || Op.bytesLess a b)
theorem ahd_iff {a e : List UInt8} : ahd a e = true ↔ e = [] ∨ L a e := by simp [ahd, L]
theorem bef_iff {a b : List UInt8} : bef a b = true ↔ a ≠ [] ∧ (b = [] ∨ L a b) := by simp [bef, L]
theorem ahead_f (a b : ByteArray) : key_ahead.f a b = some (ahd a.toList b.toList) := by
 unfold key_ahead.f ahd
 cases h : b.toList <;> simp
theorem rightRange_f (a b : ByteArray) : key_RightRange.f a b = some (ahd a.toList b.toList) := by
 simp [key_RightRange.f, ahead_f]
theorem refRight_f (a b : ByteArray) : catchmentref02_Right.f a b = some (ahd a.toList b.toList) := by
 unfold catchmentref02_Right.f ahd
 cases h : b.toList <;> simp
theorem before_f (a b : ByteArray) : key_Before.f a b = some (bef a.toList b.toList) := by
 unfold key_Before.f bef
 cases h : a.toList <;> cases h2 : b.toList <;> simp
theorem first_f (a b : ByteArray) : key_First.f a b = some (if bef b.toList a.toList = true then b else a) := by
 simp only [key_First.f, before_f, Option.bind_some]
 split <;> rfl
/-- what two ranges have in common -/
def meet (a0 a1 b0 b1 : ByteArray) : ByteArray × ByteArray × Bool :=
 if ahd a0.toList a1.toList = true ∧ ahd b0.toList b1.toList = true ∧ ahd (smx a0 b0).toList (if bef b1.toList a1.toList = true then b1 else a1).toList = true then
  (smx a0 b0, (if bef b1.toList a1.toList = true then b1 else a1), true) else (⟨#[]⟩, ⟨#[]⟩, false)
theorem meet_f (k : Nat) (a0 a1 b0 b1 : ByteArray) : key_Meet.f (k + 1) a0 a1 b0 b1 = some (meet a0 a1 b0 b1) := by
 simp only [key_Meet.f, rightRange_f, Option.bind_some, key_Meet.j0, first_f, meet]
 by_cases h1 : ahd a0.toList a1.toList = true
 ·by_cases h2 : ahd b0.toList b1.toList = true
  ·simp only [h1, h2, if_true, true_and]
   by_cases h3 : ahd (smx a0 b0).toList (if bef b1.toList a1.toList = true then b1 else a1).toList = true
   ·simp [h3]
   ·simp [h3]
  ·simp [h1, h2]
 ·simp [h1]
theorem refMeet_f (a0 a1 b0 b1 : ByteArray) : catchmentref02_Meet.f a0 a1 b0 b1 = some (meet a0 a1 b0 b1) := by
 have e1 : catchmentref02_Meet.ahd = ahd := rfl
 have e2 : catchmentref02_Meet.bef = bef := rfl
 unfold catchmentref02_Meet.f meet
 rw [e1, e2]
 by_cases h : ahd a0.toList a1.toList = true ∧ ahd b0.toList b1.toList = true ∧ ahd (smx a0 b0).toList (if bef b1.toList a1.toList = true then b1 else a1).toList = true
 ·rw [if_pos h, if_pos h]
 ·rw [if_neg h, if_neg h]
theorem after_toList (a : ByteArray) : (a ++ (⟨#[0]⟩ : ByteArray)).toList = a.toList ++ [0] := by
 rw [toList_append, toList_lit [0]]
theorem smx_toList (a b : ByteArray) : (smx a b).toList = if L a.toList b.toList then b.toList else a.toList := by
 unfold smx L; split <;> rfl
/-- may a message be of its kind; a point -/
def kd (m : S46) : Bool := decide (1 ≤ m.f0) && decide (m.f0 ≤ 4)
def pnt (m : S46) : Bool := decide (1 ≤ m.f0) && decide (m.f0 ≤ 3)
/-- what a message touches -/
def sp (m : S46) : ByteArray × ByteArray := if pnt m = true then (m.f2, m.f2 ++ ⟨#[0]⟩) else if m.f0 = 4 then (m.f2, m.f3) else (⟨#[]⟩, ⟨#[]⟩)
def fits (m : S46) : Prop := m.f2.size + 1 ≤ 9223372036854775807
theorem refPoint_f (m : S46) : catchmentref04_Point.f m.f0 m.f1 m.f2 m.f3 m.f4 m.f5 = some (pnt m) := by
 unfold catchmentref04_Point.f pnt
 by_cases h : m.f0 ≥ 1
 ·rw [if_pos h, decide_eq_true (show 1 ≤ m.f0 from h)]; rfl
 ·rw [if_neg h, decide_eq_false (show ¬ 1 ≤ m.f0 from h)]; rfl
theorem isPoint_f (m : S46) : msg_IsPoint.f m.f0 m.f1 m.f2 m.f3 m.f4 m.f5 = some (pnt m) := by
 unfold msg_IsPoint.f pnt
 by_cases h1 : m.f0 = 1
 ·rw [if_pos h1, h1]; rfl
 ·rw [if_neg h1]
  by_cases h2 : m.f0 = 2
  ·rw [if_pos h2, h2]; rfl
  ·rw [if_neg h2]
   by_cases h3 : m.f0 = 3
   ·rw [h3]; rfl
   ·rw [beq_eq_false_iff_ne.mpr h3]
    by_cases h4 : 1 ≤ m.f0
    ·rw [decide_eq_false (show ¬ m.f0 ≤ 3 by omega), Bool.and_false]
    ·rw [decide_eq_false h4, Bool.false_and]
theorem refSpan_f (m : S46) (h : fits m) : catchmentref04_Span.f m.f0 m.f1 m.f2 m.f3 m.f4 m.f5 = some (sp m) := by
 unfold catchmentref04_Span.f sp
 rw [refPoint_f, Option.bind_some, if_pos (show m.f2.size + 1 ≤ 9223372036854775807 from h)]
 by_cases h1 : pnt m = true
 ·rw [if_pos h1, if_pos h1]
 ·rw [if_neg h1, if_neg h1]
  by_cases h2 : m.f0 = 4
  ·rw [if_pos h2, if_pos h2]
  ·rw [if_neg h2, if_neg h2]
theorem span_f (m : S46) (h : fits m) : msg_Span.f m.f0 m.f1 m.f2 m.f3 m.f4 m.f5 = some (sp m) := by
 unfold msg_Span.f sp
 rw [isPoint_f, Option.bind_some]
 unfold key_Point.f key_After.f
 rw [if_pos (show m.f2.size + 1 ≤ 9223372036854775807 from h)]
 by_cases h1 : pnt m = true
 ·rw [if_pos h1, if_pos h1]; rfl
 ·rw [if_neg h1, if_neg h1]
  by_cases h2 : m.f0 = 4
  ·rw [if_pos h2, if_pos h2]
  ·rw [if_neg h2, if_neg h2]
/-- one message ahead of another one -/
def ahe (a b : S46) : Bool := decide (a.f1 < b.f1) || (decide (a.f1 = b.f1) && Op.bytesLess a.f2.toList b.f2.toList)
theorem refAhead_f (a b : S46) : catchmentref12_Ahead.f a.f0 a.f1 a.f2 a.f3 a.f4 a.f5 b.f0 b.f1 b.f2 b.f3 b.f4 b.f5 = some (ahe a b) := by
 unfold catchmentref12_Ahead.f ahe
 by_cases h : a.f1 < b.f1
 ·rw [if_pos h, decide_eq_true h]; rfl
 ·rw [if_neg h, decide_eq_false h]
  by_cases h2 : a.f1 = b.f1
  ·rw [if_pos h2, decide_eq_true h2]; simp
  ·rw [if_neg h2, decide_eq_false h2]; rfl
def M (l : List S46) (i : Nat) : S46 := rd_T46 l (i : Int)
/-- one message may stand where it does: by itself, and behind another one -/
def own (m : S46) : Bool := kd m && ahd (sp m).1.toList (sp m).2.toList
def nxt (a b : S46) : Bool := ahe a b && !(decide (a.f1 = b.f1) && (meet (sp a).1 (sp a).2 (sp b).1 (sp b).2).2.2)
def ok (l : List S46) (i : Nat) : Bool := own (M l i) && (i == 0 || nxt (M l (i - 1)) (M l i))
/-- from the i-th message on -/
def rl (l : List S46) : Nat → Nat → Bool
 | 0, _ => true
 | d + 1, i => ok l i && rl l d (i + 1)
def rt (l : List S46) : Bool := rl l l.length 0
def Fits (l : List S46) : Prop := ∀ i, i < l.length → fits (M l i)
theorem rd_nat (l : List S46) (i : Nat) : rd_T46 l (i : Int) = M l i := rfl
theorem pred_nat (i : Nat) (h : 0 < i) (h2 : i < 1000000) : wrap64 ((i : Int) - 1) = ((i - 1 : Nat) : Int) := by rw [wrap64_id (by omega) (by omega)]; omega
theorem succ_nat (i : Nat) (h2 : i < 1000000) : wrap64 ((i : Int) + 1) = ((i + 1 : Nat) : Int) := by rw [wrap64_id (by omega) (by omega)]; omega
theorem j3_f (l : List S46) (hl : l.length < 1000000) (hf : Fits l) (k i : Nat) (hi : i < l.length) (h0 : 0 < i) (b : Bool) : catchmentref12_Right.j3 (k + 1) l (i : Int) b = if (b && (meet (sp (M l (i - 1))).1 (sp (M l (i - 1))).2 (sp (M l i)).1 (sp (M l i)).2).2.2) = true then some false else catchmentref12_Right.l0 k l ((i + 1 : Nat) : Int) := by
 rw [catchmentref12_Right.j3]
 rw [pred_nat i h0 (by omega), succ_nat i (by omega)]
 cases b with
 | false => rfl
 | true =>
  rw [if_pos rfl, if_pos (by omega), if_pos (by omega)]
  simp only [rd_nat]
  rw [refSpan_f _ (hf (i - 1) (by omega)), Option.bind_some, if_pos (by omega), if_pos (by omega), refSpan_f _ (hf i hi)]
  simp only [Option.bind_some, refMeet_f, Bool.true_and]
theorem j2_f (l : List S46) (hl : l.length < 1000000) (hf : Fits l) (k i : Nat) (hi : i < l.length) (h0 : 0 < i) : catchmentref12_Right.j2 (k + 2) l (i : Int) (!(ahe (M l (i - 1)) (M l i))) = if nxt (M l (i - 1)) (M l i) = true then catchmentref12_Right.l0 k l ((i + 1 : Nat) : Int) else some false := by
 rw [catchmentref12_Right.j2]
 cases ha : ahe (M l (i - 1)) (M l i) with
 | false => simp [nxt, ha]
 | true =>
  rw [if_neg (by decide), if_pos (by omega), pred_nat i h0 (by omega), if_pos (by omega), if_pos (by omega), if_pos (by omega), if_pos (by omega), j3_f l hl hf k i hi h0]
  simp only [rd_nat, nxt, ha]
  by_cases e : (M l (i - 1)).f1 = (M l i).f1
  ·simp only [beq_iff_eq.mpr e, decide_eq_true e]
   cases (meet (sp (M l (i - 1))).1 (sp (M l (i - 1))).2 (sp (M l i)).1 (sp (M l i)).2).2.2 <;> rfl
  ·simp only [beq_eq_false_iff_ne.mpr e, decide_eq_false e]
   rfl
theorem refLoop (l : List S46) (hl : l.length < 1000000) (hf : Fits l) : ∀ (d i k : Nat), d = l.length - i → i ≤ l.length → 4 * d < k → catchmentref12_Right.l0 k l (i : Int) = some (rl l d i)
 | d, i, 0, _, _, h => absurd h (by omega)
 | 0, i, k + 1, hd, hi, hk => by
  rw [catchmentref12_Right.l0, if_neg (by omega), rl]
 | d + 1, i, k + 1, hd, hi, hk => by
  obtain ⟨n, rfl⟩ : ∃ n, k = n + 3 := ⟨k - 3, by omega⟩
  have ih := refLoop l hl hf d (i + 1) n (by omega) (by omega) (by omega)
  have hj : ∀ b, b = !(kd (M l i)) → catchmentref12_Right.j1 (n + 3) l (i : Int) b = some (rl l (d + 1) i) := by
   intro b hb
   subst hb
   rw [catchmentref12_Right.j1]
   cases hk : kd (M l i) with
   | false => simp [rl, ok, own, hk]
   | true =>
    rw [if_neg (by decide), if_pos (by omega), if_pos (by omega)]
    simp only [rd_nat]
    rw [refSpan_f _ (hf i (by omega))]
    simp only [Option.bind_some, refRight_f]
    cases hr : ahd (sp (M l i)).1.toList (sp (M l i)).2.toList with
    | false => simp [rl, ok, own, hk, hr]
    | true =>
     rw [if_pos rfl]
     by_cases h0 : 0 < i
     ·rw [if_pos (by omega), pred_nat i h0 (by omega), if_pos (by omega), if_pos (by omega)]
      simp only [rd_nat]
      rw [refAhead_f, Option.bind_some, j2_f l hl hf n i (by omega) h0, ih]
      have hz : (i == 0) = false := by rw [beq_eq_false_iff_ne]; omega
      simp only [rl, ok, own, hk, hr, hz, Bool.true_and, Bool.false_or]
      cases nxt (M l (i - 1)) (M l i) <;> simp
     ·have hz : i = 0 := by omega
      subst hz
      rw [if_neg (by omega), catchmentref12_Right.j2, if_neg (by decide), if_neg (by omega), catchmentref12_Right.j3, if_neg (by decide), succ_nat 0 (by omega), ih]
      simp [rl, ok, own, hk, hr]
  rw [catchmentref12_Right.l0, if_pos (by omega), if_pos (by omega)]
  show (if (M l i).f0 < 1 then catchmentref12_Right.j1 (n + 3) l (i : Int) true else catchmentref12_Right.j1 (n + 3) l (i : Int) (decide ((M l i).f0 > 4))) = _
  by_cases h1 : (M l i).f0 < 1
  ·rw [if_pos h1]
   refine hj true ?_
   simp only [kd]
   rw [decide_eq_false (show ¬ 1 ≤ (M l i).f0 by omega)]
   rfl
  ·rw [if_neg h1]
   refine hj _ ?_
   simp only [kd]
   rw [decide_eq_true (show 1 ≤ (M l i).f0 by omega), Bool.true_and]
   by_cases h4 : (M l i).f0 > 4
   ·rw [decide_eq_true h4, decide_eq_false (show ¬ (M l i).f0 ≤ 4 by omega)]; rfl
   ·rw [decide_eq_false h4, decide_eq_true (show (M l i).f0 ≤ 4 by omega)]; rfl
theorem refBuf_f (l : List S46) (hl : l.length < 1000000) (hf : Fits l) (k : Nat) (hk : 4 * l.length < k) : catchmentref12_Right.f k l = some (rt l) := refLoop l hl hf l.length 0 k (by omega) (by omega) hk
/-- what a right buffer has -/
theorem rl_at (l : List S46) : ∀ (d i j : Nat), rl l d i = true → i ≤ j → j < i + d → ok l j = true
 | 0, i, j, _, h1, h2 => absurd h2 (by omega)
 | d + 1, i, j, h, h1, h2 => by
  rw [rl, Bool.and_eq_true] at h
  by_cases e : j = i
  ·rw [e]; exact h.1
  ·exact rl_at l d (i + 1) j h.2 (by omega) (by omega)
theorem rt_own (l : List S46) (h : rt l = true) (j : Nat) (hj : j < l.length) : own (M l j) = true := by
 have := rl_at l l.length 0 j h (by omega) (by omega)
 rw [ok, Bool.and_eq_true] at this
 exact this.1
theorem rt_nxt (l : List S46) (h : rt l = true) (j : Nat) (h0 : 0 < j) (hj : j < l.length) : nxt (M l (j - 1)) (M l j) = true := by
 have := rl_at l l.length 0 j h (by omega) (by omega)
 have hz : (j == 0) = false := by rw [beq_eq_false_iff_ne]; omega
 rw [ok, Bool.and_eq_true, hz, Bool.false_or] at this
 exact this.2
theorem kd_cases {m : S46} (h : kd m = true) : pnt m = true ∨ (pnt m = false ∧ m.f0 = 4) := by
 unfold kd at h
 rw [Bool.and_eq_true, decide_eq_true_iff, decide_eq_true_iff] at h
 by_cases h3 : m.f0 ≤ 3
 ·left; unfold pnt; rw [decide_eq_true h.1, decide_eq_true h3]; rfl
 ·right; exact ⟨by unfold pnt; rw [decide_eq_false h3, Bool.and_false], by omega⟩
theorem sp_from {m : S46} (h : kd m = true) : (sp m).1 = m.f2 := by
 rcases kd_cases h with h1 | ⟨h1, h2⟩
 ·unfold sp; rw [if_pos h1]
 ·unfold sp; rw [if_neg (by rw [h1]; decide), if_pos h2]
theorem pnt_own {m : S46} (h : pnt m = true) : own m = true := by
 have hk : kd m = true := by
  unfold pnt at h
  rw [Bool.and_eq_true, decide_eq_true_iff, decide_eq_true_iff] at h
  unfold kd
  rw [decide_eq_true h.1, decide_eq_true (show m.f0 ≤ 4 by omega)]; rfl
 unfold own sp
 rw [if_pos h, hk, Bool.true_and, after_toList]
 exact ahd_iff.2 (.inr (L_append_zero _))
end Go.Proofs.Ytnklnjghecmihaa.BufSpec
