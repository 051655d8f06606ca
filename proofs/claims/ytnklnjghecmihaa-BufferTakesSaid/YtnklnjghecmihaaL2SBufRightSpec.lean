/- What buffer.Right answers: the document's. For rows of fewer than 1000000 messages. -/
import Derived.Test.YtnklnjghecmihaaL2x39
import Derived.Test.YtnklnjghecmihaaL2SBufSpec
set_option linter.unusedVariables false
set_option linter.unusedSimpArgs false
namespace Go.Proofs.Ytnklnjghecmihaa.Vq
open Go.RowKit Go.Proofs.Ytnklnjghecmihaa.L2 Go.Proofs.Ytnklnjghecmihaa.Lj Go.Proofs.YtnklnjghecmihaaW.aQ Go.Proofs.YtnklnjghecmihaaW.dV Go.Proofs.YtnklnjghecmihaaW.fP Go.Proofs.YtnklnjghecmihaaW.Mine Go.Proofs.YtnklnjghecmihaaW.Ord
/-- which of two messages comes first, as a number -/
def adz (a b : bC) : Int := if a.f1 < b.f1 then -1 else if a.f1 > b.f1 then 1 else if Op.bytesLess a.f2.toList b.f2.toList = true then -1 else if Op.bytesLess b.f2.toList a.f2.toList = true then 1 else 0
theorem alP (a b : Int) : cmp_Compare_int.f a b = some (if a < b then -1 else if a > b then 1 else 0) := by
 unfold cmp_Compare_int.f cmp_isNaN_int.f
 simp only [Option.bind_some, bne_self_eq_false, Bool.false_eq_true, if_false]
 split
 ·rfl
 ·split <;> rfl
theorem alQ (a b : ByteArray) : jy.f a b = some (if Op.bytesLess a.toList b.toList = true then -1 else if Op.bytesLess b.toList a.toList = true then 1 else 0) := by
 unfold jy.f cmp_isNaN_string.f
 simp only [Option.bind_some, bne_self_eq_false, Bool.false_eq_true, if_false]
 split
 ·rfl
 ·split <;> rfl
theorem aMV (k : Nat) (x y : Int) : fV.f (k + 3) [x, y] = some (if x = 0 then y else x) := by
 have e1 : wrap64 ((0 : Int) + 1) = 1 := by rw [m_ (by decide) (by decide)]; rfl
 have e2 : wrap64 ((1 : Int) + 1) = 2 := by rw [m_ (by decide) (by decide)]; rfl
 have r0 : rd [x, y] 0 = x := rfl
 have r1 : rd [x, y] 1 = y := rfl
 unfold fV.f
 show fV.l0 (k + 2 + 1) 0 [x, y] 2 0 = _
 rw [fV.l0, if_pos (by decide), if_pos (by decide), if_pos (by simp), r0, e1]
 by_cases h : x = 0
 ·rw [if_pos h, if_pos h, fV.l0, if_pos (by decide), if_pos (by decide), if_pos (by simp), r1, e2]
  by_cases h2 : y = 0
  ·rw [if_pos h2, fV.l0, if_neg (by decide), h2]
  ·rw [if_neg h2]
 ·rw [if_neg h, if_neg h]
theorem yM (k : Nat) (a b : bC) : bV.f (k + 3) a.f0 a.f1 a.f2 a.f3 a.f4 a.f5 b.f0 b.f1 b.f2 b.f3 b.f4 b.f5 = some (adz a b) := by
 unfold bV.f adz
 rw [alP, Option.bind_some, alQ, Option.bind_some, aMV, Option.bind_some]
 by_cases h1 : a.f1 < b.f1
 ·simp [h1]
 ·by_cases h2 : a.f1 > b.f1
  ·simp [h1, h2]
  ·simp [h1, h2]
theorem ahb (a b : bC) : adz a b < 0 ↔ ahe a b = true := by
 unfold adz ahe
 by_cases h1 : a.f1 < b.f1
 ·simp [h1]
 ·by_cases h2 : a.f1 > b.f1
  ·have h3 : ¬ a.f1 = b.f1 := by omega
   simp [h1, h2, h3]
  ·have h3 : a.f1 = b.f1 := by omega
   by_cases h4 : Op.bytesLess a.f2.toList b.f2.toList = true
   ·simp [h3, h4]
   ·by_cases h5 : Op.bytesLess b.f2.toList a.f2.toList = true
    ·simp [h3, h4, h5]
    ·simp [h3, h4, h5]
theorem aJF (a b : bC) (h : ahe a b = true) : adz b a > 0 := by
 unfold ahe at h
 unfold adz
 by_cases h1 : a.f1 < b.f1
 ·rw [if_neg (by omega), if_pos (by omega)]; decide
 ·rw [decide_eq_false h1, Bool.false_or, Bool.and_eq_true, decide_eq_true_iff] at h
  have h2 : ¬ Op.bytesLess b.f2.toList a.f2.toList = true := fun h3 => Na h.2 h3
  rw [if_neg (by omega), if_neg (by omega), if_neg h2, if_pos h.2]; decide
theorem aqo (a b : bC) (h : fits a) : oq.f a.f0 a.f1 a.f2 a.f3 a.f4 a.f5 b.f0 b.f1 b.f2 b.f3 b.f4 b.f5 = some (!(vw b.f2.toList (sp a).2.toList)) := by
 unfold oq.f vw
 rw [ZR a h, Option.bind_some]
 cases he : (sp a).2.toList <;> simp
theorem Xh {m : bC} (h : own m = true) : kd m = true ∧ (sp m).1 = m.f2 ∧ vw m.f2.toList (sp m).2.toList = true := by
 unfold own at h
 rw [Bool.and_eq_true] at h
 have h1 := Lm h.1
 exact ⟨h.1, h1, by rw [← h1]; exact h.2⟩
theorem adA (a b : bC) (ha : own a = true) (hb : own b = true) (hl : Op.bytesLess a.f2.toList b.f2.toList = true) : (meet (sp a).1 (sp a).2 (sp b).1 (sp b).2).2.2 = vw b.f2.toList (sp a).2.toList := by
 obtain ⟨_, ea, ra⟩ := Xh ha
 obtain ⟨_, eb, rb⟩ := Xh hb
 rw [ea, eb]
 unfold meet
 have es : Ey a.f2 b.f2 = b.f2 := by unfold Ey; rw [if_pos hl]
 rw [es]
 by_cases hf : Fz (sp b).2.toList (sp a).2.toList = true
 ·rw [if_pos hf, if_pos ⟨ra, rb, rb⟩]
  refine Eq.symm (sO.2 ?_)
  obtain ⟨h1, h2⟩ := BX.1 hf
  rcases h2 with h2 | h2
  ·exact .inl h2
  ·rcases sO.1 rb with h3 | h3
   ·exact absurd h3 h1
   ·exact .inr (rM h3 h2)
 ·rw [if_neg hf]
  by_cases h4 : vw b.f2.toList (sp a).2.toList = true
  ·rw [if_pos ⟨ra, rb, h4⟩, h4]
  ·rw [if_neg (fun h => h4 h.2.2)]
   exact (by simpa using h4 : vw b.f2.toList (sp a).2.toList = false).symm
/-- messages that may stand by themselves, up to a place -/
def bad (l : List bC) (i : Nat) : Bool := !(i == 0 || nxt (M l (i - 1)) (M l i))
theorem bj2 (l : List bC) (k i : Nat) (hi : i < l.length) (hl : l.length < 1000000) (b : Bool) : aG.j2 (k + 1) l l (l.length : Int) (i : Int) b = if b = true then some false else aG.l0 k l l (l.length : Int) ((i + 1 : Nat) : Int) := by
 rw [aG.j2, lG i (by omega)]
theorem bj1 (l : List bC) (hl : l.length < 1000000) (hf : Fits l) (k i : Nat) (hi : i < l.length) (ho : own (M l i) = true) (hp : 0 < i → own (M l (i - 1)) = true) :
  aG.j1 (k + 4) l (i : Int) l (l.length : Int) (i : Int) false (M l i).f0 (M l i).f1 (M l i).f2 (M l i).f3 (M l i).f4 (M l i).f5 = if bad l i = true then some false else aG.l0 (k + 2) l l (l.length : Int) ((i + 1 : Nat) : Int) := by
 rw [aG.j1, if_neg (by decide)]
 by_cases h0 : 0 < i
 ·have hz : (i == 0) = false := by rw [beq_eq_false_iff_ne]; omega
  rw [if_pos (by omega), qK i h0 (by omega), if_pos (by omega), if_pos (by omega)]
  simp only [P7]
  rw [yM k, Option.bind_some, aqo _ _ (hf (i - 1) (by omega))]
  simp only [Option.bind_some, bj2 l (k + 2) i hi hl]
  unfold bad
  rw [hz, Bool.false_or]
  unfold nxt
  by_cases ha : ahe (M l (i - 1)) (M l i) = true
  ·have h1 := (ahb (M l (i - 1)) (M l i)).2 ha
   rw [if_neg (by omega), ha]
   by_cases he : (M l (i - 1)).f1 = (M l i).f1
   ·have hlt : Op.bytesLess (M l (i - 1)).f2.toList (M l i).f2.toList = true := by
     unfold ahe at ha
     rw [decide_eq_false (show ¬ (M l (i - 1)).f1 < (M l i).f1 by omega), Bool.false_or, Bool.and_eq_true] at ha
     exact ha.2
    rw [if_pos he, decide_eq_true he, adA _ _ (hp h0) ho hlt]
    cases vw (M l i).f2.toList (sp (M l (i - 1))).2.toList <;> rfl
   ·rw [if_neg he, decide_eq_false he]
    rfl
  ·have h1 : ¬ adz (M l (i - 1)) (M l i) < 0 := fun h => ha ((ahb _ _).1 h)
   rw [if_pos (by omega), (by simpa using ha : ahe (M l (i - 1)) (M l i) = false)]
   rfl
 ·have hz : i = 0 := by omega
  subst hz
  rw [if_neg (by omega), bj2 l (k + 2) 0 hi hl]
  rfl
theorem Xi (l : List bC) (hl : l.length < 1000000) (hf : Fits l) : ∀ (d i k : Nat), d = l.length - i → i ≤ l.length → (0 < i → own (M l (i - 1)) = true) → 3 * d + 5 < k → aG.l0 k l l (l.length : Int) (i : Int) = some (rl l d i)
 | d, i, 0, _, _, _, h => absurd h (by omega)
 | 0, i, k + 1, hd, hi, hp, hk => by
  rw [aG.l0, if_neg (by omega), rl]
 | d + 1, i, k + 1, hd, hi, hp, hk => by
  obtain ⟨n, rfl⟩ : ∃ n, k = n + 4 := ⟨k - 4, by omega⟩
  have hj : ∀ b, b = !(own (M l i)) → aG.j1 (n + 4) l (i : Int) l (l.length : Int) (i : Int) b (M l i).f0 (M l i).f1 (M l i).f2 (M l i).f3 (M l i).f4 (M l i).f5 = some (rl l (d + 1) i) := by
   intro b hb
   subst hb
   cases ho : own (M l i) with
   | false => rw [aG.j1, if_pos (by rfl)]; simp [rl, ok, ho]
   | true =>
    show aG.j1 (n + 4) l (i : Int) l (l.length : Int) (i : Int) false (M l i).f0 (M l i).f1 (M l i).f2 (M l i).f3 (M l i).f4 (M l i).f5 = _
    rw [bj1 l hl hf n i (by omega) ho hp, Xi l hl hf d (i + 1) (n + 2) (by omega) (by omega) (fun _ => by rw [Nat.add_sub_cancel]; exact ho) (by omega)]
    have hq : (i == 0 || nxt (M l (i - 1)) (M l i)) = !(bad l i) := by unfold bad; rw [Bool.not_not]
    rw [rl, ok, ho, Bool.true_and, hq]
    cases bad l i <;> rfl
  rw [aG.l0, if_pos (by omega), if_pos (by omega), if_pos (by omega)]
  simp only [P7]
  rw [Ll, Option.bind_some]
  by_cases h1 : Ie (M l i) = true
  ·rw [if_pos h1]
   exact hj false (by rw [aqm h1]; rfl)
  ·rw [if_neg h1]
   have h1f : Ie (M l i) = false := by simpa using h1
   by_cases h4 : (M l i).f0 = 4
   ·have hk4 : kd (M l i) = true := by unfold kd; rw [h4]; rfl
    have h5 : (if (M l i).f0 = 4 then (jm.f (M l i).f0 (M l i).f1 (M l i).f2 (M l i).f3 (M l i).f4 (M l i).f5).bind fun bt => (eH.f bt.1 bt.2).bind fun t => aG.j1 (n + 4) l (i : Int) l (l.length : Int) (i : Int) (!t) (M l i).f0 (M l i).f1 (M l i).f2 (M l i).f3 (M l i).f4 (M l i).f5 else aG.j1 (n + 4) l (i : Int) l (l.length : Int) (i : Int) true (M l i).f0 (M l i).f1 (M l i).f2 (M l i).f3 (M l i).f4 (M l i).f5) = some (rl l (d + 1) i) := by
     rw [if_pos h4, ZR _ (hf i (by omega)), Option.bind_some, He, Option.bind_some]
     exact hj _ (by unfold own; rw [hk4, Bool.true_and])
    exact h5
   ·have h5 : (if (M l i).f0 = 4 then (jm.f (M l i).f0 (M l i).f1 (M l i).f2 (M l i).f3 (M l i).f4 (M l i).f5).bind fun bt => (eH.f bt.1 bt.2).bind fun t => aG.j1 (n + 4) l (i : Int) l (l.length : Int) (i : Int) (!t) (M l i).f0 (M l i).f1 (M l i).f2 (M l i).f3 (M l i).f4 (M l i).f5 else aG.j1 (n + 4) l (i : Int) l (l.length : Int) (i : Int) true (M l i).f0 (M l i).f1 (M l i).f2 (M l i).f3 (M l i).f4 (M l i).f5) = some (rl l (d + 1) i) := by
     rw [if_neg h4]
     refine hj true ?_
     have hk : kd (M l i) = false := by
      cases hk : kd (M l i) with
      | false => rfl
      | true =>
       rcases abZ hk with h | h
       ·exact absurd h h1
       ·exact absurd h.2 h4
     unfold own
     rw [hk]
     rfl
    exact h5
theorem ahc (l : List bC) (hl : l.length < 1000000) (hf : Fits l) (k : Nat) (hk : 3 * l.length + 5 < k) : aG.f k l = some (rt l) := Xi l hl hf l.length 0 k (by omega) (by omega) (fun h => absurd h (by omega)) hk
end Go.Proofs.Ytnklnjghecmihaa.Vq
