/- Messages, their spans, and what catchmentref12.Right answers, as plain functions. No condition but the sizes that a Go value has. -/
import Derived.Test.YtnklnjghecmihaaL2x9
import Derived.Test.YtnklnjghecmihaaL2x34
import Derived.Test.YtnklnjghecmihaaL2x30
import Derived.Test.YtnklnjghecmihaaL2x44
import Derived.Test.YtnklnjghecmihaaL2V0
set_option linter.unusedVariables false
set_option linter.unusedSimpArgs false
namespace Go.Proofs.Ytnklnjghecmihaa.Lj
open Go.RowKit Go.Proofs.Ytnklnjghecmihaa.L2 Go.Proofs.YtnklnjghecmihaaW.aQ Go.Proofs.YtnklnjghecmihaaW.dV Go.Proofs.YtnklnjghecmihaaW.fP Go.Proofs.YtnklnjghecmihaaW.Mine Go.Proofs.YtnklnjghecmihaaW.Ord
theorem m_ {n : Int} (h0 : 0 ≤ n) (h1 : n < 9223372036854775808) : wrap64 n = n := by unfold wrap64; omega
/-- before an end? -/
def vw (a e : List UInt8) : Bool := e.isEmpty || Op.bytesLess a e
/-- one end before another one? -/
def Fz (a b : List UInt8) : Bool := !a.isEmpty && (b.isEmpty || Op.bytesLess a b)
theorem sO {a e : List UInt8} : vw a e = true ↔ e = [] ∨ L a e := by simp [vw, L]
theorem BX {a b : List UInt8} : Fz a b = true ↔ a ≠ [] ∧ (b = [] ∨ L a b) := by simp [Fz, L]
theorem O8 (a b : ByteArray) : rE.f a b = some (vw a.toList b.toList) := by
 unfold rE.f vw
 cases h : b.toList <;> simp
theorem He (a b : ByteArray) : eH.f a b = some (vw a.toList b.toList) := by
 simp [eH.f, O8]
theorem Vl (a b : ByteArray) : gK.f a b = some (vw a.toList b.toList) := by
 unfold gK.f vw
 cases h : b.toList <;> simp
theorem Vm (a b : ByteArray) : o8.f a b = some (Fz a.toList b.toList) := by
 unfold o8.f Fz
 cases h : a.toList <;> cases h2 : b.toList <;> simp
theorem aql (a b : ByteArray) : rF.f a b = some (if Fz b.toList a.toList = true then b else a) := by
 simp only [rF.f, Vm, Option.bind_some]
 split <;> rfl
/-- what two ranges have in common -/
def meet (a0 a1 b0 b1 : ByteArray) : ByteArray × ByteArray × Bool :=
 if vw a0.toList a1.toList = true ∧ vw b0.toList b1.toList = true ∧ vw (Ey a0 b0).toList (if Fz b1.toList a1.toList = true then b1 else a1).toList = true then
  (Ey a0 b0, (if Fz b1.toList a1.toList = true then b1 else a1), true) else (⟨#[]⟩, ⟨#[]⟩, false)
theorem awx (k : Nat) (a0 a1 b0 b1 : ByteArray) : fZ.f (k + 1) a0 a1 b0 b1 = some (meet a0 a1 b0 b1) := by
 simp only [fZ.f, He, Option.bind_some, fZ.j0, aql, meet]
 by_cases h1 : vw a0.toList a1.toList = true
 ·by_cases h2 : vw b0.toList b1.toList = true
  ·simp only [h1, h2, if_true, true_and]
   by_cases h3 : vw (Ey a0 b0).toList (if Fz b1.toList a1.toList = true then b1 else a1).toList = true
   ·simp [h3]
   ·simp [h3]
  ·simp [h1, h2]
 ·simp [h1]
theorem WY (a0 a1 b0 b1 : ByteArray) : bW.f a0 a1 b0 b1 = some (meet a0 a1 b0 b1) := by
 have e1 : bW.vw = vw := rfl
 have e2 : bW.Fz = Fz := rfl
 unfold bW.f meet
 rw [e1, e2]
 by_cases h : vw a0.toList a1.toList = true ∧ vw b0.toList b1.toList = true ∧ vw (Ey a0 b0).toList (if Fz b1.toList a1.toList = true then b1 else a1).toList = true
 ·rw [if_pos h, if_pos h]
 ·rw [if_neg h, if_neg h]
theorem Hf (a : ByteArray) : (a ++ (⟨#[0]⟩ : ByteArray)).toList = a.toList ++ [0] := by
 rw [toList_append, acj [0]]
theorem Hg (a b : ByteArray) : (Ey a b).toList = if L a.toList b.toList then b.toList else a.toList := by
 unfold Ey L; split <;> rfl
/-- may a message be of its kind; a point -/
def kd (m : bC) : Bool := decide (1 ≤ m.f0) && decide (m.f0 ≤ 4)
def Ie (m : bC) : Bool := decide (1 ≤ m.f0) && decide (m.f0 ≤ 3)
/-- what a message touches -/
def sp (m : bC) : ByteArray × ByteArray := if Ie m = true then (m.f2, m.f2 ++ ⟨#[0]⟩) else if m.f0 = 4 then (m.f2, m.f3) else (⟨#[]⟩, ⟨#[]⟩)
def fits (m : bC) : Prop := m.f2.size + 1 ≤ 9223372036854775807
theorem MV (m : bC) : dX.f m.f0 m.f1 m.f2 m.f3 m.f4 m.f5 = some (Ie m) := by
 unfold dX.f Ie
 by_cases h : m.f0 ≥ 1
 ·rw [if_pos h, decide_eq_true (show 1 ≤ m.f0 from h)]; rfl
 ·rw [if_neg h, decide_eq_false (show ¬ 1 ≤ m.f0 from h)]; rfl
theorem Ll (m : bC) : iH.f m.f0 m.f1 m.f2 m.f3 m.f4 m.f5 = some (Ie m) := by
 unfold iH.f Ie
 by_cases h1 : m.f0 = 1
 ·rw [if_pos h1, h1]; rfl
 ·rw [if_neg h1]
  by_cases h2 : m.f0 = 2
  ·rw [if_pos h2, h2]; rfl
  ·rw [if_neg h2]
   by_cases h3 : m.f0 = 3
   ·rw [h3]; rfl
   ·rw [beq_eq_false_iff_ne.mpr h3]
    by_cases h4 : 1 ≤ m.f0
    ·rw [decide_eq_false (show ¬ m.f0 ≤ 3 by omega), Bool.and_false]
    ·rw [decide_eq_false h4, Bool.false_and]
theorem P6 (m : bC) (h : fits m) : dK.f m.f0 m.f1 m.f2 m.f3 m.f4 m.f5 = some (sp m) := by
 unfold dK.f sp
 rw [MV, Option.bind_some, if_pos (show m.f2.size + 1 ≤ 9223372036854775807 from h)]
 by_cases h1 : Ie m = true
 ·rw [if_pos h1, if_pos h1]
 ·rw [if_neg h1, if_neg h1]
  by_cases h2 : m.f0 = 4
  ·rw [if_pos h2, if_pos h2]
  ·rw [if_neg h2, if_neg h2]
theorem ZR (m : bC) (h : fits m) : jm.f m.f0 m.f1 m.f2 m.f3 m.f4 m.f5 = some (sp m) := by
 unfold jm.f sp
 rw [Ll, Option.bind_some]
 unfold vI.f Cc.f
 rw [if_pos (show m.f2.size + 1 ≤ 9223372036854775807 from h)]
 by_cases h1 : Ie m = true
 ·rw [if_pos h1, if_pos h1]; rfl
 ·rw [if_neg h1, if_neg h1]
  by_cases h2 : m.f0 = 4
  ·rw [if_pos h2, if_pos h2]
  ·rw [if_neg h2, if_neg h2]
/-- one message ahead of another one -/
def ahe (a b : bC) : Bool := decide (a.f1 < b.f1) || (decide (a.f1 = b.f1) && Op.bytesLess a.f2.toList b.f2.toList)
theorem adt (a b : bC) : fU.f a.f0 a.f1 a.f2 a.f3 a.f4 a.f5 b.f0 b.f1 b.f2 b.f3 b.f4 b.f5 = some (ahe a b) := by
 unfold fU.f ahe
 by_cases h : a.f1 < b.f1
 ·rw [if_pos h, decide_eq_true h]; rfl
 ·rw [if_neg h, decide_eq_false h]
  by_cases h2 : a.f1 = b.f1
  ·rw [if_pos h2, decide_eq_true h2]; simp
  ·rw [if_neg h2, decide_eq_false h2]; rfl
def M (l : List bC) (i : Nat) : bC := aj l (i : Int)
/-- one message may stand where it does: by itself, and behind another one -/
def own (m : bC) : Bool := kd m && vw (sp m).1.toList (sp m).2.toList
def nxt (a b : bC) : Bool := ahe a b && !(decide (a.f1 = b.f1) && (meet (sp a).1 (sp a).2 (sp b).1 (sp b).2).2.2)
def ok (l : List bC) (i : Nat) : Bool := own (M l i) && (i == 0 || nxt (M l (i - 1)) (M l i))
/-- from the i-th message on -/
def rl (l : List bC) : Nat → Nat → Bool
 | 0, _ => true
 | d + 1, i => ok l i && rl l d (i + 1)
def rt (l : List bC) : Bool := rl l l.length 0
def Fits (l : List bC) : Prop := ∀ i, i < l.length → fits (M l i)
theorem P7 (l : List bC) (i : Nat) : aj l (i : Int) = M l i := rfl
theorem qK (i : Nat) (h : 0 < i) (h2 : i < 1000000) : wrap64 ((i : Int) - 1) = ((i - 1 : Nat) : Int) := by rw [m_ (by omega) (by omega)]; omega
theorem lG (i : Nat) (h2 : i < 1000000) : wrap64 ((i : Int) + 1) = ((i + 1 : Nat) : Int) := by rw [m_ (by omega) (by omega)]; omega
theorem aMP (l : List bC) (hl : l.length < 1000000) (hf : Fits l) (k i : Nat) (hi : i < l.length) (h0 : 0 < i) (b : Bool) : au.j3 (k + 1) l (i : Int) b = if (b && (meet (sp (M l (i - 1))).1 (sp (M l (i - 1))).2 (sp (M l i)).1 (sp (M l i)).2).2.2) = true then some false else au.l0 k l ((i + 1 : Nat) : Int) := by
 rw [au.j3]
 rw [qK i h0 (by omega), lG i (by omega)]
 cases b with
 | false => rfl
 | true =>
  rw [if_pos rfl, if_pos (by omega), if_pos (by omega)]
  simp only [P7]
  rw [P6 _ (hf (i - 1) (by omega)), Option.bind_some, if_pos (by omega), if_pos (by omega), P6 _ (hf i hi)]
  simp only [Option.bind_some, WY, Bool.true_and]
theorem aMQ (l : List bC) (hl : l.length < 1000000) (hf : Fits l) (k i : Nat) (hi : i < l.length) (h0 : 0 < i) : au.j2 (k + 2) l (i : Int) (!(ahe (M l (i - 1)) (M l i))) = if nxt (M l (i - 1)) (M l i) = true then au.l0 k l ((i + 1 : Nat) : Int) else some false := by
 rw [au.j2]
 cases ha : ahe (M l (i - 1)) (M l i) with
 | false => simp [nxt, ha]
 | true =>
  rw [if_neg (by decide), if_pos (by omega), qK i h0 (by omega), if_pos (by omega), if_pos (by omega), if_pos (by omega), if_pos (by omega), aMP l hl hf k i hi h0]
  simp only [P7, nxt, ha]
  by_cases e : (M l (i - 1)).f1 = (M l i).f1
  ·simp only [beq_iff_eq.mpr e, decide_eq_true e]
   cases (meet (sp (M l (i - 1))).1 (sp (M l (i - 1))).2 (sp (M l i)).1 (sp (M l i)).2).2.2 <;> rfl
  ·simp only [beq_eq_false_iff_ne.mpr e, decide_eq_false e]
   rfl
theorem ag4 (l : List bC) (hl : l.length < 1000000) (hf : Fits l) : ∀ (d i k : Nat), d = l.length - i → i ≤ l.length → 4 * d < k → au.l0 k l (i : Int) = some (rl l d i)
 | d, i, 0, _, _, h => absurd h (by omega)
 | 0, i, k + 1, hd, hi, hk => by
  rw [au.l0, if_neg (by omega), rl]
 | d + 1, i, k + 1, hd, hi, hk => by
  obtain ⟨n, rfl⟩ : ∃ n, k = n + 3 := ⟨k - 3, by omega⟩
  have ih := ag4 l hl hf d (i + 1) n (by omega) (by omega) (by omega)
  have hj : ∀ b, b = !(kd (M l i)) → au.j1 (n + 3) l (i : Int) b = some (rl l (d + 1) i) := by
   intro b hb
   subst hb
   rw [au.j1]
   cases hk : kd (M l i) with
   | false => simp [rl, ok, own, hk]
   | true =>
    rw [if_neg (by decide), if_pos (by omega), if_pos (by omega)]
    simp only [P7]
    rw [P6 _ (hf i (by omega))]
    simp only [Option.bind_some, Vl]
    cases hr : vw (sp (M l i)).1.toList (sp (M l i)).2.toList with
    | false => simp [rl, ok, own, hk, hr]
    | true =>
     rw [if_pos rfl]
     by_cases h0 : 0 < i
     ·rw [if_pos (by omega), qK i h0 (by omega), if_pos (by omega), if_pos (by omega)]
      simp only [P7]
      rw [adt, Option.bind_some, aMQ l hl hf n i (by omega) h0, ih]
      have hz : (i == 0) = false := by rw [beq_eq_false_iff_ne]; omega
      simp only [rl, ok, own, hk, hr, hz, Bool.true_and, Bool.false_or]
      cases nxt (M l (i - 1)) (M l i) <;> simp
     ·have hz : i = 0 := by omega
      subst hz
      rw [if_neg (by omega), au.j2, if_neg (by decide), if_neg (by omega), au.j3, if_neg (by decide), lG 0 (by omega), ih]
      simp [rl, ok, own, hk, hr]
  rw [au.l0, if_pos (by omega), if_pos (by omega)]
  show (if (M l i).f0 < 1 then au.j1 (n + 3) l (i : Int) true else au.j1 (n + 3) l (i : Int) (decide ((M l i).f0 > 4))) = _
  by_cases h1 : (M l i).f0 < 1
  ·rw [if_pos h1]
   refine hj true ?_
   simp only [kd]
   rw [decide_eq_false (show ¬ 1 ≤ (M l i).f0 by omega)]
   rfl
  ·rw [if_neg h1]
   refine hj _ ?_
   simp only [kd]
   rw [decide_eq_true (show 1 ≤ (M l i).f0 by omega), Bool.true_and]
   by_cases h4 : (M l i).f0 > 4
   ·rw [decide_eq_true h4, decide_eq_false (show ¬ (M l i).f0 ≤ 4 by omega)]; rfl
   ·rw [decide_eq_false h4, decide_eq_true (show (M l i).f0 ≤ 4 by omega)]; rfl
theorem abY (l : List bC) (hl : l.length < 1000000) (hf : Fits l) (k : Nat) (hk : 4 * l.length < k) : au.f k l = some (rt l) := ag4 l hl hf l.length 0 k (by omega) (by omega) hk
/-- what a right buffer has -/
theorem alG (l : List bC) : ∀ (d i j : Nat), rl l d i = true → i ≤ j → j < i + d → ok l j = true
 | 0, i, j, _, h1, h2 => absurd h2 (by omega)
 | d + 1, i, j, h, h1, h2 => by
  rw [rl, Bool.and_eq_true] at h
  by_cases e : j = i
  ·rw [e]; exact h.1
  ·exact alG l d (i + 1) j h.2 (by omega) (by omega)
theorem awy (l : List bC) (h : rt l = true) (j : Nat) (hj : j < l.length) : own (M l j) = true := by
 have := alG l l.length 0 j h (by omega) (by omega)
 rw [ok, Bool.and_eq_true] at this
 exact this.1
theorem awz (l : List bC) (h : rt l = true) (j : Nat) (h0 : 0 < j) (hj : j < l.length) : nxt (M l (j - 1)) (M l j) = true := by
 have := alG l l.length 0 j h (by omega) (by omega)
 have hz : (j == 0) = false := by rw [beq_eq_false_iff_ne]; omega
 rw [ok, Bool.and_eq_true, hz, Bool.false_or] at this
 exact this.2
theorem abZ {m : bC} (h : kd m = true) : Ie m = true ∨ (Ie m = false ∧ m.f0 = 4) := by
 unfold kd at h
 rw [Bool.and_eq_true, decide_eq_true_iff, decide_eq_true_iff] at h
 by_cases h3 : m.f0 ≤ 3
 ·left; unfold Ie; rw [decide_eq_true h.1, decide_eq_true h3]; rfl
 ·right; exact ⟨by unfold Ie; rw [decide_eq_false h3, Bool.and_false], by omega⟩
theorem Lm {m : bC} (h : kd m = true) : (sp m).1 = m.f2 := by
 rcases abZ h with h1 | ⟨h1, h2⟩
 ·unfold sp; rw [if_pos h1]
 ·unfold sp; rw [if_neg (by rw [h1]; decide), if_pos h2]
theorem aqm {m : bC} (h : Ie m = true) : own m = true := by
 have hk : kd m = true := by
  unfold Ie at h
  rw [Bool.and_eq_true, decide_eq_true_iff, decide_eq_true_iff] at h
  unfold kd
  rw [decide_eq_true h.1, decide_eq_true (show m.f0 ≤ 4 by omega)]; rfl
 unfold own sp
 rw [if_pos h, hk, Bool.true_and, Hf]
 exact sO.2 (.inr (LM _))
end Go.Proofs.Ytnklnjghecmihaa.Lj
