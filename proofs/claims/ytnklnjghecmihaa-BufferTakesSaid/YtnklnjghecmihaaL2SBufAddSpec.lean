/- What the document's Add of messages answers: a row that is sorted and holds, class by class, the same in the same order; so it is what the library's stable sort makes. For rows of fewer than 50000 messages. -/
import Derived.Test.YtnklnjghecmihaaL2x47
import Derived.Test.YtnklnjghecmihaaL2x45
import Derived.Test.YtnklnjghecmihaaL2SStbSpec
set_option linter.unusedVariables false
set_option linter.unusedSimpArgs false
namespace Go.Proofs.Ytnklnjghecmihaa.wY
open Go.RowKit Go.Proofs.Ytnklnjghecmihaa.L2 Go.Proofs.Ytnklnjghecmihaa.Fh Go.Proofs.Ytnklnjghecmihaa.iY Go.Proofs.YtnklnjghecmihaaW.aQ Go.Proofs.YtnklnjghecmihaaW.dV Go.Proofs.YtnklnjghecmihaaW.fP Go.Proofs.YtnklnjghecmihaaW.Mine Go.Proofs.YtnklnjghecmihaaW.Ord
theorem drop_nil {α : Type} {l : List α} {i : Nat} (h : l.drop i = []) : l.length ≤ i := by
 have := congrArg List.length h
 rw [List.length_drop, List.length_nil] at this
 omega
theorem Ho {l : List bC} {i : Nat} {x : bC} {r : List bC} (h : l.drop i = x :: r) : i < l.length ∧ aj l (i : Int) = x ∧ l.drop (i + 1) = r := by
 have hi : i < l.length := by
  rcases Nat.lt_or_ge i l.length with h0 | h0
  ·exact h0
  ·rw [List.drop_eq_nil_of_le h0] at h
   cases h
 rw [List.drop_eq_getElem_cons hi] at h
 injection h with h1 h2
 refine ⟨hi, ?_, h2⟩
 unfold aj
 rw [Int.toNat_natCast, List.getD_eq_getElem?_getD, List.getElem?_eq_getElem hi, Option.getD_some, h1]
theorem O8 (a b : bC) : fU.f a.f0 a.f1 a.f2 a.f3 a.f4 a.f5 b.f0 b.f1 b.f2 b.f3 b.f4 b.f5 = some (lt a b) := by
 unfold fU.f lt
 by_cases h : a.f1 < b.f1
 ·rw [if_pos h, decide_eq_true h, Bool.true_or]
 ·rw [if_neg h, decide_eq_false h, Bool.false_or]
  by_cases h2 : a.f1 = b.f1
  ·rw [if_pos h2, decide_eq_true h2, Bool.true_and]
  ·rw [if_neg h2, decide_eq_false h2, Bool.false_and]
theorem Xa (A : List bC) (m : bC) (hA : ∀ y ∈ A, lt m y = false) : ∀ (n : Nat) (B C : List bC), B.length = n → A.length + B.length + C.length < 60000 → (∀ y ∈ B, lt m y = true) → Ev fun k => aY.l0 k (A ++ B ++ C) ((A.length + n : Nat) : Int) m.f0 m.f1 m.f2 m.f3 m.f4 m.f5 = some (A ++ m :: (B ++ C))
 | 0, B, C, hB, hl, hBm => by
  have : B = [] := List.eq_nil_of_length_eq_zero hB
  subst this
  refine Ev.step (Ev.all True trivial) fun k _ => ?_
  rw [aY.l0, Nat.add_zero, List.append_nil, List.nil_append]
  have fin : ((some (([] : List (bC)) : List (bC))).bind fun PY => (if 0 ≤ ((A.length : Nat) : Int) then (if ((A.length : Nat) : Int) ≤ ((A ++ C).length : Int) then ((some ((A ++ C).take (((A.length : Nat) : Int) : Int).toNat : List (bC))).bind fun LH => (if PY.length + LH.length < 1954687338268 then ((some (PY ++ LH : List (bC))).bind fun Ja => (if Ja.length < 1954687338268 then ((some (Ja ++ [(⟨m.f0, m.f1, m.f2, m.f3, m.f4, m.f5⟩ : bC)] : List (bC))).bind fun Df => ((some ((A ++ C).drop (((A.length : Nat) : Int) : Int).toNat : List (bC))).bind fun xC => (if Df.length + xC.length < 1954687338268 then (some (Df ++ xC)) else (none)))) else (none))) else (none))) else (none)) else (none))) = some (A ++ m :: C) := by
   simp only [List.length_nil] at hl
   rw [Option.bind_some, if_pos (by omega), if_pos (by rw [List.length_append]; omega), Option.bind_some, Int.toNat_natCast, List.take_left' rfl, List.drop_left' rfl, if_pos (by simp; omega), Option.bind_some, if_pos (by simp; omega), Option.bind_some, Option.bind_some, if_pos (by simp; omega)]
   simp
  rcases Nat.eq_zero_or_pos A.length with h0 | h0
  ·rw [if_neg (by omega)]
   exact fin
  ·obtain ⟨A', p, hA', hA2⟩ := Fj (n := A.length - 1) (B := A) (by omega)
   have e2 : aj (A ++ C) ((A.length - 1 : Nat) : Int) = p := by
    have := rd1 A' p C (A.length - 1) (by omega)
    rw [← this, hA']
    simp
   rw [if_pos (by omega), qK _ h0 (by omega), if_pos (by omega), if_pos (by rw [List.length_append]; omega), e2, O8 m p, Option.bind_some, if_neg (by rw [hA p (by rw [hA']; simp)]; decide)]
   exact fin
 | n + 1, B, C, hB, hl, hBm => by
  obtain ⟨B', p, rfl, hB'⟩ := Fj hB
  simp only [List.length_append, List.length_cons, List.length_nil] at hl
  have ih := Xa A m hA n B' (p :: C) hB' (by simp only [List.length_cons]; omega) (fun y hy => hBm y (by simp [hy]))
  refine ih.step fun k hk => ?_
  have e2 : aj (A ++ (B' ++ [p]) ++ C) ((A.length + (n + 1) - 1 : Nat) : Int) = p := by
   have := rd1 (A ++ B') p C (A.length + (n + 1) - 1) (by simp; omega)
   simpa using this
  rw [aY.l0, if_pos (by omega), qK _ (by omega) (by omega), if_pos (by omega), if_pos (by simp; omega), e2, O8 m p, Option.bind_some, if_pos (hBm p (by simp)), show A.length + (n + 1) - 1 = A.length + n by omega, show A ++ (B' ++ [p]) ++ C = A ++ B' ++ p :: C by simp, hk]
  simp
theorem alJ (l : List bC) (m : bC) (hl : l.length < 60000) (hs : Sd lt l) : ∃ R, Sd lt R ∧ St lt R (l ++ [m]) ∧ R.length = l.length + 1 ∧ Ev fun k => aY.f k l m.f0 m.f1 m.f2 m.f3 m.f4 m.f5 = some R := by
 obtain ⟨A, B, rfl, hA, hB⟩ := Tc sw m l hs
 refine ⟨A ++ m :: B, ZT sw hs hA (fun y hy => asym sw (hB y hy)), ?_, by simp; omega, ?_⟩
 ·have h5 : St lt ([m] ++ B) (B ++ [m]) := (St.swap sw (u := B) (v := [m]) (fun y hy z hz => by rw [List.mem_singleton.1 hz]; exact hB y hy)).symm
  have h6 := (St.refl (lt := lt) A).app h5
  simpa using h6
 ·have := Xa A m hA B.length B [] rfl (by simp only [List.length_append, List.length_nil] at hl ⊢; omega) hB
  refine this.mono fun k hk => ?_
  unfold aY.f
  simpa using hk
theorem Xb (x1 : List bC) (h1 : x1.length < 20000) : ∀ (r acc : List bC) (i : Nat), x1.drop i = r → Sd lt acc → acc.length + r.length < 60000 → ∃ R, Sd lt R ∧ St lt R (acc ++ r) ∧ R.length = acc.length + r.length ∧ Ev fun k => bH.l1 k x1 acc (i : Int) = some R
 | [], acc, i, h, hs, hl => by
  have := drop_nil h
  refine ⟨acc, hs, by rw [List.append_nil]; exact St.refl _, rfl, ?_⟩
  refine Ev.step (Ev.all True trivial) fun k _ => ?_
  rw [bH.l1, if_neg (by omega)]
 | x :: r, acc, i, h, hs, hl => by
  obtain ⟨g1, g2, g3⟩ := Ho h
  simp only [List.length_cons] at hl
  obtain ⟨R1, a1, a2, a3, a4⟩ := alJ acc x (by omega) hs
  obtain ⟨R, b1, b2, b3, b4⟩ := Xb x1 h1 r R1 (i + 1) g3 a1 (by omega)
  refine ⟨R, b1, ?_, by simp only [List.length_cons]; omega, ?_⟩
  ·refine b2.trans ?_
   have := a2.app (St.refl (lt := lt) r)
   simpa using this
  ·refine (a4.and b4).step fun k ⟨hk1, hk2⟩ => ?_
   rw [bH.l1, if_pos (by omega), if_pos (by omega), g2, hk1, Option.bind_some, lG i (by omega)]
   exact hk2
theorem Xc (x0 x1 : List bC) (h0 : x0.length < 20000) (h1 : x1.length < 20000) : ∀ (r acc : List bC) (i : Nat), x0.drop i = r → Sd lt acc → acc.length + r.length < 30000 → ∃ R, Sd lt R ∧ St lt R (acc ++ r ++ x1) ∧ R.length = acc.length + r.length + x1.length ∧ Ev fun k => bH.l0 k x0 x1 acc (i : Int) = some R
 | [], acc, i, h, hs, hl => by
  have := drop_nil h
  simp only [List.length_nil] at hl
  obtain ⟨R, b1, b2, b3, b4⟩ := Xb x1 h1 x1 acc 0 (List.drop_zero ..) hs (by omega)
  refine ⟨R, b1, by rw [List.append_nil]; exact b2, by simpa using b3, ?_⟩
  refine b4.step fun k hk => ?_
  rw [bH.l0, if_neg (by omega)]
  exact hk
 | x :: r, acc, i, h, hs, hl => by
  obtain ⟨g1, g2, g3⟩ := Ho h
  simp only [List.length_cons] at hl
  obtain ⟨R1, a1, a2, a3, a4⟩ := alJ acc x (by omega) hs
  obtain ⟨R, b1, b2, b3, b4⟩ := Xc x0 x1 h0 h1 r R1 (i + 1) g3 a1 (by omega)
  refine ⟨R, b1, ?_, by simp only [List.length_cons]; omega, ?_⟩
  ·refine b2.trans ?_
   have := (a2.app (St.refl (lt := lt) r)).app (St.refl (lt := lt) x1)
   simpa using this
  ·refine (a4.and b4).step fun k ⟨hk1, hk2⟩ => ?_
   rw [bH.l0, if_pos (by omega), if_pos (by omega), g2, hk1, Option.bind_some, lG i (by omega)]
   exact hk2
theorem Vk (a b : List bC) (ha : a.length < 20000) (hb : b.length < 20000) : ∃ R, Sd lt R ∧ St lt R (a ++ b) ∧ R.length = a.length + b.length ∧ Ev fun k => bH.f k a b = some R := by
 obtain ⟨R, b1, b2, b3, b4⟩ := Xc a b ha hb a [] 0 (List.drop_zero ..) Sd.nil (by simp; omega)
 exact ⟨R, b1, by simpa using b2, by simpa using b3, b4⟩
theorem Xd (l : List bC) (hl : l.length < 400000) : ∀ (d i k : Nat), d = l.length - i → i ≤ l.length → d < k → aJ.l0 k l l (i : Int) = some true
 | d, i, 0, _, _, h => absurd h (by omega)
 | 0, i, k + 1, hd, hi, hk => by rw [aJ.l0, if_neg (by omega)]
 | d + 1, i, k + 1, hd, hi, hk => by
  rw [aJ.l0, if_pos (by omega), if_pos (by omega), if_pos (by omega), if_neg (by simp), lG i (by omega)]
  exact Xd l hl d (i + 1) k (by omega) (by omega) (by omega)
theorem adx (l : List bC) (hl : l.length < 400000) (k : Nat) (hk : l.length < k) : aJ.f k l l = some true := by
 unfold aJ.f
 rw [if_pos rfl]
 exact Xd l hl l.length 0 k (by omega) (by omega) hk
end Go.Proofs.Ytnklnjghecmihaa.wY
