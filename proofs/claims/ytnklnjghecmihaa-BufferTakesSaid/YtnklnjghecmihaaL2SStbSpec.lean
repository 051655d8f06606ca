/- What the library's stable sort of messages answers: a row that is sorted and holds, class by class, the same in the same order. For every row of fewer than 100000 messages. -/
import Derived.Test.YtnklnjghecmihaaL2x24
import Derived.Test.YtnklnjghecmihaaL2SSortSpec
import Derived.Test.YtnklnjghecmihaaL2V0
set_option linter.unusedVariables false
set_option linter.unusedSimpArgs false
namespace Go.Proofs.Ytnklnjghecmihaa.iY
open Go.RowKit Go.Proofs.Ytnklnjghecmihaa.L2 Go.Proofs.Ytnklnjghecmihaa.Fh Go.Proofs.YtnklnjghecmihaaW.aQ Go.Proofs.YtnklnjghecmihaaW.dV Go.Proofs.YtnklnjghecmihaaW.fP Go.Proofs.YtnklnjghecmihaaW.Mine Go.Proofs.YtnklnjghecmihaaW.Ord
theorem m_ {n : Int} (h0 : 0 ≤ n) (h1 : n < 9223372036854775808) : wrap64 n = n := by unfold wrap64; omega
theorem lG (i : Nat) (h2 : i < 1000000) : wrap64 ((i : Int) + 1) = ((i + 1 : Nat) : Int) := by rw [m_ (by omega) (by omega)]; omega
theorem qK (i : Nat) (h : 0 < i) (h2 : i < 1000000) : wrap64 ((i : Int) - 1) = ((i - 1 : Nat) : Int) := by rw [m_ (by omega) (by omega)]; omega
theorem BZ (i j : Nat) (h : i + j < 1000000) : wrap64 ((i : Int) + (j : Int)) = ((i + j : Nat) : Int) := by rw [m_ (by omega) (by omega)]; omega
theorem ql (i j : Nat) (h : j ≤ i) (h2 : i < 1000000) : wrap64 ((i : Int) - (j : Int)) = ((i - j : Nat) : Int) := by rw [m_ (by omega) (by omega)]; omega
theorem awC {n : Int} (h0 : 0 ≤ n) (h1 : n < 9223372036854775808) : IntKind.u64.wrap n = n := by
 simp [IntKind.wrap, IntKind.signed, IntKind.bits]
 omega
theorem Hl (i j : Nat) (h : i + j < 1000000) : wrap64 ((IntKind.u64.wrap (wrap64 ((i : Int) + (j : Int)))) / 2) = (((i + j) / 2 : Nat) : Int) := by
 rw [m_ (n := (i : Int) + (j : Int)) (by omega) (by omega), awC (by omega) (by omega), m_ (by omega) (by omega)]
 omega
/-- which of two messages comes first -/
def lt (a b : bC) : Bool := decide (a.f1 < b.f1) || (decide (a.f1 = b.f1) && Op.bytesLess a.f2.toList b.f2.toList)
theorem lt_iff {a b : bC} : lt a b = true ↔ a.f1 < b.f1 ∨ a.f1 = b.f1 ∧ L a.f2.toList b.f2.toList := by simp [lt, L]
theorem sw : SW lt where
 irr := fun a => by
  rw [← Bool.not_eq_true, lt_iff]
  rintro (h | ⟨_, h⟩)
  ·omega
  ·exact uD _ h
 tr := fun a b c h1 h2 => by
  rw [lt_iff] at *
  rcases h1 with h1 | ⟨h1, h3⟩
  ·rcases h2 with h2 | ⟨h2, _⟩
   ·exact .inl (by omega)
   ·exact .inl (by omega)
  ·rcases h2 with h2 | ⟨h2, h4⟩
   ·exact .inl (by omega)
   ·exact .inr ⟨by omega, rM h3 h4⟩
 ng := fun a b c h => by
  rw [lt_iff] at *
  rw [lt_iff]
  rcases h with h | ⟨h, h3⟩
  ·rcases Int.lt_or_le a.f1 b.f1 with h4 | h4
   ·exact .inl (.inl h4)
   ·exact .inr (.inl (by omega))
  ·rcases Int.lt_or_le a.f1 b.f1 with h4 | h4
   ·exact .inl (.inl h4)
   ·rcases Int.lt_or_le b.f1 a.f1 with h5 | h5
    ·exact .inr (.inl (by omega))
    ·rcases Ji a.f2.toList b.f2.toList with h6 | h6 | h6
     ·exact .inl (.inr ⟨by omega, h6⟩)
     ·exact .inr (.inr ⟨by omega, by rw [← h6]; exact h3⟩)
     ·exact .inr (.inr ⟨by omega, rM h6 h3⟩)
/-- the library's number of two messages -/
def c1 (a b : Int) : Int := if a < b then -1 else if a > b then 1 else 0
def c2 (a b : List UInt8) : Int := if Op.bytesLess a b = true then -1 else if Op.bytesLess b a = true then 1 else 0
def ov (a b : bC) : Int := if c1 a.f1 b.f1 = 0 then c2 a.f2.toList b.f2.toList else c1 a.f1 b.f1
theorem QF (a b : bC) : (ov a b < 0) ↔ lt a b = true := by
 rw [lt_iff]
 unfold ov c1 c2 L
 by_cases h1 : a.f1 < b.f1
 ·simp [h1]
 ·by_cases h2 : a.f1 > b.f1
  ·simp [h1, h2]
   omega
  ·have h3 : a.f1 = b.f1 := by omega
   by_cases h4 : Op.bytesLess a.f2.toList b.f2.toList = true
   ·simp [h1, h2, h3, h4]
   ·by_cases h5 : Op.bytesLess b.f2.toList a.f2.toList = true
    ·simp [h1, h2, h3, h4, h5]
    ·simp [h1, h2, h3, h4, h5]
theorem yM (a b : bC) (k : Nat) (hk : 5 ≤ k) : bV.f k a.f0 a.f1 a.f2 a.f3 a.f4 a.f5 b.f0 b.f1 b.f2 b.f3 b.f4 b.f5 = some (ov a b) := by
 obtain ⟨k, rfl⟩ : ∃ k2, k = k2 + 3 := ⟨k - 3, by omega⟩
 have h1 : cmp_Compare_int.f a.f1 b.f1 = some (c1 a.f1 b.f1) := by
  unfold cmp_Compare_int.f cmp_isNaN_int.f c1
  rw [Option.bind_some, Option.bind_some, if_neg (by simp), if_neg (by simp)]
  split
  ·rfl
  ·split <;> rfl
 have h2 : jy.f a.f2 b.f2 = some (c2 a.f2.toList b.f2.toList) := by
  unfold jy.f cmp_isNaN_string.f c2
  rw [Option.bind_some, Option.bind_some, if_neg (by simp), if_neg (by simp)]
  split
  ·rfl
  ·split <;> rfl
 unfold bV.f
 rw [h1, Option.bind_some, h2, Option.bind_some]
 have h3 : fV.f (k + 3) [c1 a.f1 b.f1, c2 a.f2.toList b.f2.toList] = some (ov a b) := by
  unfold fV.f ov
  generalize c1 a.f1 b.f1 = x
  generalize c2 a.f2.toList b.f2.toList = y
  have w1 : wrap64 (0 + 1) = 1 := by unfold wrap64; omega
  have w2 : wrap64 (1 + 1) = 2 := by unfold wrap64; omega
  rw [fV.l0, if_pos (by simp), if_pos (by omega), if_pos (by simp), show rd [x, y] 0 = x from rfl, w1]
  by_cases hx : x = 0
  ·rw [if_pos hx, if_pos hx, fV.l0, if_pos (by simp), if_pos (by omega), if_pos (by simp), show rd [x, y] 1 = y from rfl, w2]
   by_cases hy : y = 0
   ·rw [if_pos hy, fV.l0, if_neg (by simp), hy]
   ·rw [if_neg hy]
  ·rw [if_neg hx, if_neg hx]
 rw [h3, Option.bind_some]
theorem eta (x : bC) : (⟨x.f0, x.f1, x.f2, x.f3, x.f4, x.f5⟩ : bC) = x := rfl
theorem rdP (P Q R : List bC) (i : Nat) (hi : i < Q.length) (n : Nat) (hn : n = P.length + i) : aj (P ++ Q ++ R) (n : Int) = Q[i] := by
 subst hn
 unfold aj
 rw [Int.toNat_natCast, List.getD_eq_getElem?_getD, List.append_assoc, List.getElem?_append_right (by omega), List.getElem?_append_left (by omega), List.getElem?_eq_getElem (by omega), Option.getD_some]
 congr 1
 omega
theorem rd1 (P : List bC) (x : bC) (R : List bC) (n : Nat) (hn : n = P.length) : aj (P ++ x :: R) (n : Int) = x := by
 have := rdP P [x] R 0 (by simp) n (by omega)
 simpa using this
theorem set1 (P : List bC) (x y : bC) (R : List bC) (n : Nat) (hn : n = P.length) : (P ++ x :: R).set n y = P ++ y :: R := by
 subst hn
 simp
/-- two neighbours change places -/
theorem sw2 (P : List bC) (p q : bC) (R : List bC) (n : Nat) (hn : n = P.length) : ((P ++ p :: q :: R).set (n + 1) p).set n q = P ++ q :: p :: R := by
 have h1 : (P ++ p :: q :: R).set (n + 1) p = P ++ p :: p :: R := by
  rw [show P ++ p :: q :: R = (P ++ [p]) ++ q :: R by simp, set1 (P ++ [p]) q p R (n + 1) (by simp [hn])]
  simp
 rw [h1, set1 P p q (p :: R) n hn]
theorem aMR (P : List bC) (p q : bC) (R : List bC) (n : Nat) (hn : n = P.length) : ((P ++ p :: q :: R).set n q).set (n + 1) p = P ++ q :: p :: R := by
 rw [set1 P p q (q :: R) n hn, show P ++ q :: q :: R = (P ++ [q]) ++ q :: R by simp, set1 (P ++ [q]) q p R (n + 1) (by simp [hn])]
 simp
theorem Fj {α : Type} {B : List α} {n : Nat} (h : B.length = n + 1) : ∃ B' p, B = B' ++ [p] ∧ B'.length = n := by
 have hb : B ≠ [] := by intro e; rw [e] at h; cases h
 refine ⟨B.dropLast, B.getLast hb, (List.dropLast_concat_getLast hb).symm, ?_⟩
 rw [List.length_dropLast]
 omega
/-! ### insertion -/
theorem ab1 (a : Nat) (b : Int) (i : Nat) (r : List bC) (x : bC) (X A : List bC) (hX : X.length = a) (hA : ∀ y ∈ A, lt x y = false) : ∀ (n : Nat) (B S2 : List bC), B.length = n → X.length + A.length + B.length + S2.length < 100000 → i < 100000 → (∀ y ∈ B, lt x y = true) → (Ev fun k => bQ.l0 k (X ++ A ++ x :: (B ++ S2)) (a : Int) b ((i + 1 : Nat) : Int) = some r) → Ev fun k => bQ.l1 k (X ++ A ++ B ++ x :: S2) (a : Int) b (i : Int) ((a + A.length + n : Nat) : Int) = some r
 | 0, B, S2, hB, hl, hi, hBx, h => by
  have : B = [] := List.eq_nil_of_length_eq_zero hB
  subst this
  simp only [List.length_nil] at hl
  refine (h.and (Ev.of 5 fun k hk => hk)).step fun k ⟨hk, hk5⟩ => ?_
  rw [bQ.l1, List.append_nil]
  rw [List.nil_append] at hk
  rcases Nat.eq_zero_or_pos A.length with h0 | h0
  ·rw [if_neg (by omega), lG i (by omega)]
   exact hk
  ·obtain ⟨A', p, rfl, hA'⟩ := Fj (n := A.length - 1) (B := A) (by omega)
   have e1 : aj (X ++ (A' ++ [p]) ++ x :: S2) ((a + (A' ++ [p]).length + 0 : Nat) : Int) = x := rd1 _ x S2 _ (by simp; omega)
   have e2 : aj (X ++ (A' ++ [p]) ++ x :: S2) ((a + (A' ++ [p]).length + 0 - 1 : Nat) : Int) = p := by
    have := rd1 (X ++ A') p (x :: S2) (a + (A' ++ [p]).length + 0 - 1) (by simp; omega)
    simpa using this
   simp only [List.length_append, List.length_cons, List.length_nil] at hl h0 hA' e1 e2 ⊢
   rw [if_pos (by omega), if_pos (by omega), if_pos (by omega), qK _ (by omega) (by omega), if_pos (by omega), if_pos (by omega), e1, e2, yM x p k (by omega), Option.bind_some, if_neg (by rw [QF, hA p (by simp)]; decide), lG i (by omega)]
   exact hk
 | n + 1, B, S2, hB, hl, hi, hBx, h => by
  obtain ⟨B', p, rfl, hB'⟩ := Fj hB
  have ih := ab1 a b i r x X A hX hA n B' (p :: S2) hB' (by simp only [List.length_append, List.length_cons, List.length_nil] at hl ⊢; omega) hi (fun y hy => hBx y (by simp [hy])) (by simpa using h)
  refine (ih.and (Ev.of 5 fun k hk => hk)).step fun k ⟨hk, hk5⟩ => ?_
  simp only [List.length_append, List.length_cons, List.length_nil] at hl
  have hlen : (X ++ A ++ (B' ++ [p]) ++ x :: S2).length = a + A.length + n + 2 + S2.length := by simp; omega
  have e1 : aj (X ++ A ++ (B' ++ [p]) ++ x :: S2) ((a + A.length + (n + 1) : Nat) : Int) = x := rd1 _ x S2 _ (by simp; omega)
  have e2 : aj (X ++ A ++ (B' ++ [p]) ++ x :: S2) ((a + A.length + (n + 1) - 1 : Nat) : Int) = p := by
   have := rd1 (X ++ A ++ B') p (x :: S2) (a + A.length + (n + 1) - 1) (by simp; omega)
   simpa using this
  rw [bQ.l1, if_pos (by omega), if_pos (by omega), if_pos (by omega), qK _ (by omega) (by omega), if_pos (by omega), if_pos (by omega), e1, e2, yM x p k (by omega), Option.bind_some, if_pos (by rw [QF]; exact hBx p (by simp)), eta, eta, Int.toNat_natCast, Int.toNat_natCast]
  have e3 := sw2 (X ++ A ++ B') p x S2 (a + A.length + n) (by simp; omega)
  rw [show a + A.length + (n + 1) - 1 = a + A.length + n by omega, show a + A.length + (n + 1) = a + A.length + n + 1 by omega, show X ++ A ++ (B' ++ [p]) ++ x :: S2 = X ++ A ++ B' ++ p :: x :: S2 by simp, e3]
  exact hk
theorem WZ (X Y : List bC) : ∀ (T S : List bC), X.length + S.length + T.length + Y.length < 90000 → Sd lt S → 0 < S.length → ∃ R, Sd lt R ∧ St lt R (S ++ T) ∧ R.length = S.length + T.length ∧ Ev fun k => bQ.l0 k (X ++ S ++ T ++ Y) (X.length : Int) ((X.length + S.length + T.length : Nat) : Int) ((X.length + S.length : Nat) : Int) = some (X ++ R ++ Y)
 | [], S, hl, hs, h0 => by
  refine ⟨S, hs, by rw [List.append_nil]; exact St.refl _, by simp, ?_⟩
  refine Ev.step (Ev.all True trivial) fun k _ => ?_
  rw [bQ.l0, if_neg (by simp), List.append_nil]
 | x :: T, S, hl, hs, h0 => by
  obtain ⟨A, B, rfl, hA, hB⟩ := Tc sw x S hs
  simp only [List.length_append, List.length_cons] at hl
  have hs2 : Sd lt (A ++ x :: B) := ZT sw hs hA (fun y hy => asym sw (hB y hy))
  obtain ⟨R, h1, h2, h3, h4⟩ := WZ X Y T (A ++ x :: B) (by simp only [List.length_append, List.length_cons]; omega) hs2 (by simp; omega)
  refine ⟨R, h1, ?_, by rw [h3]; simp; omega, ?_⟩
  ·refine h2.trans ?_
   have h5 : St lt ([x] ++ B) (B ++ [x]) := (St.swap sw (u := B) (v := [x]) (fun y hy z hz => by rw [List.mem_singleton.1 hz]; exact hB y hy)).symm
   have h6 := ((St.refl (lt := lt) A).app h5).app (St.refl T)
   simpa using h6
  ·have hm := ab1 X.length ((X.length + (A ++ B).length + (x :: T).length : Nat) : Int) (X.length + (A ++ B).length) (X ++ R ++ Y) x X A rfl hA B.length B (T ++ Y) rfl (by simp only [List.length_append]; omega) (by simp only [List.length_append]; omega) hB (by
    refine h4.mono fun k hk => ?_
    have e1 : X.length + (A ++ x :: B).length + T.length = X.length + (A ++ B).length + (x :: T).length := by simp; omega
    have e2 : X.length + (A ++ x :: B).length = X.length + (A ++ B).length + 1 := by simp; omega
    rw [e1, e2] at hk
    simpa using hk)
   refine hm.step fun k hk => ?_
   rw [bQ.l0, if_pos (by simp only [List.length_append, List.length_cons]; omega)]
   have e3 : X.length + A.length + B.length = X.length + (A ++ B).length := by simp; omega
   rw [e3] at hk
   simpa using hk
theorem as8 (X R0 Y : List bC) (hl : X.length + R0.length + Y.length < 90000) : ∃ R, Sd lt R ∧ St lt R R0 ∧ R.length = R0.length ∧ Ev fun k => bQ.f k (X ++ R0 ++ Y) (X.length : Int) ((X.length + R0.length : Nat) : Int) = some (X ++ R ++ Y) := by
 cases R0 with
 | nil =>
  refine ⟨[], Sd.nil, St.refl _, rfl, ?_⟩
  refine Ev.step (Ev.all True trivial) fun k _ => ?_
  unfold bQ.f
  rw [lG _ (by omega), bQ.l0, if_neg (by simp; omega)]
 | cons x T =>
  obtain ⟨R, h1, h2, h3, h4⟩ := WZ X Y T [x] (by simp only [List.length_cons, List.length_nil] at hl ⊢; omega) (Sd.one x) (by simp)
  refine ⟨R, h1, h2, by rw [h3]; simp; omega, h4.mono fun k hk => ?_⟩
  unfold bQ.f
  simp only [List.length_cons] at hl
  rw [lG _ (by omega)]
  have e1 : X.length + [x].length + T.length = X.length + (x :: T).length := by simp; omega
  rw [e1] at hk
  simpa using hk
/-! ### two runs of one length change places; a rotation -/
theorem ab2 (a b n : Nat) (C : List bC) : ∀ (P Q A B : List bC) (i : Nat), P.length = Q.length → A.length = a + i → A.length + P.length + B.length = b + i → i + P.length = n → A.length + P.length + B.length + Q.length + C.length < 90000 → Ev fun k => dS.l0 k (A ++ P ++ B ++ Q ++ C) (a : Int) (b : Int) (n : Int) (i : Int) = some (A ++ Q ++ B ++ P ++ C)
 | [], Q, A, B, i, hPQ, hA, hB, hn, hl => by
  have : Q = [] := List.eq_nil_of_length_eq_zero hPQ.symm
  subst this
  refine Ev.step (Ev.all True trivial) fun k _ => ?_
  simp only [List.length_nil] at hn
  rw [dS.l0, if_neg (by omega)]
 | p :: P, [], A, B, i, hPQ, hA, hB, hn, hl => by cases hPQ
 | p :: P, q :: Q, A, B, i, hPQ, hA, hB, hn, hl => by
  simp only [List.length_cons] at hPQ hB hn hl
  have ih := ab2 a b n C P Q (A ++ [q]) (B ++ [p]) (i + 1) (by omega) (by simp; omega) (by simp; omega) (by omega) (by simp; omega)
  refine ih.step fun k hk => ?_
  have hlen : (A ++ p :: P ++ B ++ q :: Q ++ C).length = A.length + P.length + B.length + Q.length + C.length + 2 := by simp; omega
  have e1 : aj (A ++ p :: P ++ B ++ q :: Q ++ C) ((a + i : Nat) : Int) = p := by
   have := rd1 A p (P ++ B ++ q :: Q ++ C) (a + i) hA.symm
   simpa using this
  have e2 : aj (A ++ p :: P ++ B ++ q :: Q ++ C) ((b + i : Nat) : Int) = q := by
   have := rd1 (A ++ p :: P ++ B) q (Q ++ C) (b + i) (by simp; omega)
   simpa using this
  have e3 : (A ++ p :: P ++ B ++ q :: Q ++ C).set (a + i) q = A ++ q :: (P ++ B ++ q :: Q ++ C) := by
   have := set1 A p q (P ++ B ++ q :: Q ++ C) (a + i) hA.symm
   simpa using this
  have e4 : (A ++ q :: (P ++ B ++ q :: Q ++ C)).set (b + i) p = (A ++ [q]) ++ P ++ (B ++ [p]) ++ Q ++ C := by
   have := set1 (A ++ q :: P ++ B) q p (Q ++ C) (b + i) (by simp; omega)
   simpa using this
  rw [dS.l0, if_pos (by omega), BZ b i (by omega), if_pos (by omega), if_pos (by omega), BZ a i (by omega), if_pos (by omega), if_pos (by omega), e1, e2, eta, eta, Int.toNat_natCast, Int.toNat_natCast, lG i (by omega), e3, e4, hk]
  simp
theorem swr (A P B Q C : List bC) (h : P.length = Q.length) (hl : A.length + P.length + B.length + Q.length + C.length < 90000) (a b n : Nat) (ha : a = A.length) (hb : b = A.length + P.length + B.length) (hn : n = P.length) : Ev fun k => dS.f k (A ++ P ++ B ++ Q ++ C) (a : Int) (b : Int) (n : Int) = some (A ++ Q ++ B ++ P ++ C) :=
 ab2 a b n C P Q A B 0 h (by omega) (by omega) (by omega) hl
theorem Vo (m : Nat) (r : List bC) : ∀ (n : Nat) (X P Q Y : List bC), P.length + Q.length ≤ n → 0 < P.length → 0 < Q.length → X.length + P.length = m → X.length + P.length + Q.length + Y.length < 90000 → Ev fun k => dY.l0 k (X ++ P ++ Q ++ Y) (m : Int) (P.length : Int) (Q.length : Int) = some (X ++ Q ++ P ++ Y)
 | 0, X, P, Q, Y, hn, hP, hQ, hm, hl => by omega
 | n + 1, X, P, Q, Y, hn, hP, hQ, hm, hl => by
  rcases Nat.lt_trichotomy P.length Q.length with h | h | h
  ·-- P is shorter: it goes to the end
   obtain ⟨Q1, Q2, rfl, hQ2⟩ : ∃ Q1 Q2, Q = Q1 ++ Q2 ∧ Q2.length = P.length := ⟨Q.take (Q.length - P.length), Q.drop (Q.length - P.length), (List.take_append_drop _ _).symm, by rw [List.length_drop]; omega⟩
   simp only [List.length_append] at hn hQ hl h
   have h1 := swr X P Q1 Q2 Y hQ2.symm (by omega) X.length (m + (Q1 ++ Q2).length - P.length) P.length rfl (by simp; omega) rfl
   have ih := Vo m r n X Q2 Q1 (P ++ Y) (by omega) (by omega) (by omega) (by omega) (by simp; omega)
   refine (h1.and ih).step fun k ⟨hk1, hk2⟩ => ?_
   simp only [List.length_append] at hk1
   rw [dY.l0, if_neg (by simp; omega), if_neg (by simp; omega), ql m P.length (by omega) (by omega), List.length_append, BZ m _ (by omega), ql _ P.length (by omega) (by omega), show m - P.length = X.length by omega, ql _ P.length (by omega) (by omega)]
   rw [show X ++ P ++ (Q1 ++ Q2) ++ Y = X ++ P ++ Q1 ++ Q2 ++ Y by simp, hk1, Option.bind_some, show Q1.length + Q2.length - P.length = Q1.length by omega, ← hQ2, show X ++ Q2 ++ Q1 ++ P ++ Y = X ++ Q2 ++ Q1 ++ (P ++ Y) by simp, hk2]
   simp
  ·have h1 := swr X P [] Q Y h (by simp; omega) X.length m P.length rfl (by simp; omega) rfl
   refine h1.step fun k hk => ?_
   rw [dY.l0, if_pos (by omega), ql m P.length (by omega) (by omega), show m - P.length = X.length by omega]
   rw [show X ++ P ++ [] ++ Q ++ Y = X ++ P ++ Q ++ Y by simp] at hk
   rw [hk, Option.bind_some]
   simp
  ·obtain ⟨P1, P2, rfl, hP1⟩ : ∃ P1 P2, P = P1 ++ P2 ∧ P1.length = Q.length := ⟨P.take Q.length, P.drop Q.length, (List.take_append_drop _ _).symm, by rw [List.length_take]; omega⟩
   simp only [List.length_append] at hn hP hl h hm
   have h1 := swr X P1 P2 Q Y hP1 (by omega) X.length m Q.length rfl (by omega) hP1.symm
   have ih := Vo m r n (X ++ Q) P2 P1 Y (by omega) (by omega) (by omega) (by simp; omega) (by simp; omega)
   refine (h1.and ih).step fun k ⟨hk1, hk2⟩ => ?_
   rw [dY.l0, List.length_append, if_neg (by omega), if_pos (by omega), ql m _ (by omega) (by omega), show m - (P1.length + P2.length) = X.length by omega, ql _ Q.length (by omega) (by omega)]
   rw [show X ++ (P1 ++ P2) ++ Q ++ Y = X ++ P1 ++ P2 ++ Q ++ Y by simp, hk1, Option.bind_some, show P1.length + P2.length - Q.length = P2.length by omega, ← hP1, hk2]
   simp
theorem rot (X P Q Y : List bC) (hP : 0 < P.length) (hQ : 0 < Q.length) (hl : X.length + P.length + Q.length + Y.length < 90000) (a m b : Nat) (ha : a = X.length) (hm : m = X.length + P.length) (hb : b = X.length + P.length + Q.length) : Ev fun k => dY.f k (X ++ P ++ Q ++ Y) (a : Int) (m : Int) (b : Int) = some (X ++ Q ++ P ++ Y) := by
 refine (Vo m [] (P.length + Q.length) X P Q Y (Nat.le_refl _) hP hQ hm.symm hl).mono fun k hk => ?_
 unfold dY.f
 rw [ql m a (by omega) (by omega), ql b m (by omega) (by omega), show m - a = P.length by omega, show b - m = Q.length by omega, hk]
/-! ### two sorted runs become one -/
theorem adu (D r : List bC) (a s : Nat) (ha : a < D.length) (hD : D.length < 400000) : ∀ (d i j : Nat), j - i ≤ d → i ≤ s → s ≤ j → j ≤ D.length → (∀ h, i ≤ h → h < j → lt (aj D (h : Int)) (aj D (a : Int)) = decide (h < s)) → (Ev fun k => ay.l1 k D (s : Int) (a : Int) = some r) → Ev fun k => ay.l0 k D (a : Int) (i : Int) (j : Int) = some r
 | d, i, j, hd, hi, hj, hjl, hq, h => by
  by_cases hij : i < j
  ·have q := hq ((i + j) / 2) (by omega) (by omega)
   by_cases hs : (i + j) / 2 < s
   ·match d, hd with
    | 0, hd => omega
    | d + 1, hd =>
     have ih := adu D r a s ha hD d ((i + j) / 2 + 1) j (by omega) hs hj hjl (fun h h1 h2 => hq h (by omega) h2) h
     refine (ih.and (Ev.of 5 fun k hk => hk)).step fun k ⟨hk, hk5⟩ => ?_
     rw [ay.l0, if_pos (by omega), Hl i j (by omega), if_pos (by omega), if_pos (by omega), if_pos (by omega), if_pos (by omega), yM _ _ k hk5, Option.bind_some, if_pos (by rw [QF, q]; simpa using hs), lG _ (by omega)]
     exact hk
   ·match d, hd with
    | 0, hd => omega
    | d + 1, hd =>
     have ih := adu D r a s ha hD d i ((i + j) / 2) (by omega) hi (by omega) (by omega) (fun h h1 h2 => hq h h1 (by omega)) h
     refine (ih.and (Ev.of 5 fun k hk => hk)).step fun k ⟨hk, hk5⟩ => ?_
     rw [ay.l0, if_pos (by omega), Hl i j (by omega), if_pos (by omega), if_pos (by omega), if_pos (by omega), if_pos (by omega), yM _ _ k hk5, Option.bind_some, if_neg (by rw [QF, q]; simpa using hs)]
     exact hk
  ·obtain rfl : i = s := by omega
   refine h.step fun k hk => ?_
   rw [ay.l0, if_neg (by omega)]
   exact hk
theorem adv (D r : List bC) (m s : Nat) (hm : m < D.length) (hD : D.length < 400000) : ∀ (d i j : Nat), j - i ≤ d → i ≤ s → s ≤ j → j ≤ D.length → (∀ h, i ≤ h → h < j → lt (aj D (m : Int)) (aj D (h : Int)) = decide (s ≤ h)) → (Ev fun k => ay.l3 k D (s : Int) (m : Int) = some r) → Ev fun k => ay.l2 k D (m : Int) (i : Int) (j : Int) = some r
 | d, i, j, hd, hi, hj, hjl, hq, h => by
  by_cases hij : i < j
  ·have q := hq ((i + j) / 2) (by omega) (by omega)
   by_cases hs : (i + j) / 2 < s
   ·match d, hd with
    | 0, hd => omega
    | d + 1, hd =>
     have ih := adv D r m s hm hD d ((i + j) / 2 + 1) j (by omega) hs hj hjl (fun h h1 h2 => hq h (by omega) h2) h
     refine (ih.and (Ev.of 5 fun k hk => hk)).step fun k ⟨hk, hk5⟩ => ?_
     rw [ay.l2, if_pos (by omega), Hl i j (by omega), if_pos (by omega), if_pos (by omega), if_pos (by omega), if_pos (by omega), yM _ _ k hk5, Option.bind_some, if_neg (by rw [QF, q]; simpa using hs), lG _ (by omega)]
     exact hk
   ·match d, hd with
    | 0, hd => omega
    | d + 1, hd =>
     have ih := adv D r m s hm hD d i ((i + j) / 2) (by omega) hi (by omega) (by omega) (fun h h1 h2 => hq h h1 (by omega)) h
     refine (ih.and (Ev.of 5 fun k hk => hk)).step fun k ⟨hk, hk5⟩ => ?_
     rw [ay.l2, if_pos (by omega), Hl i j (by omega), if_pos (by omega), if_pos (by omega), if_pos (by omega), if_pos (by omega), yM _ _ k hk5, Option.bind_some, if_pos (by rw [QF, q]; simp; omega)]
     exact hk
  ·obtain rfl : i = s := by omega
   refine h.step fun k hk => ?_
   rw [ay.l2, if_neg (by omega)]
   exact hk
theorem adw (D r : List bC) (x1 m x3 x18 n p s : Nat) (hp : p < 900000) (hn : n < 900000) (hsn : s ≤ n) (hD : D.length < 400000) : ∀ (d i j : Nat), j - i ≤ d → i ≤ s → s ≤ j → j ≤ D.length → (∀ h, i ≤ h → h < j → h ≤ p ∧ p - h < D.length ∧ lt (aj D ((p - h : Nat) : Int)) (aj D (h : Int)) = decide (s ≤ h)) → (Ev fun k => ay.j6 k D (x1 : Int) (m : Int) (x3 : Int) (x18 : Int) (s : Int) ((n - s : Nat) : Int) (decide (s < m) && decide (m < n - s)) = some r) → Ev fun k => ay.l4 k D (x1 : Int) (m : Int) (x3 : Int) (x18 : Int) (n : Int) (i : Int) (j : Int) (p : Int) = some r
 | d, i, j, hd, hi, hj, hjl, hq, h => by
  by_cases hij : i < j
  ·obtain ⟨q1, q2, q⟩ := hq ((i + j) / 2) (by omega) (by omega)
   by_cases hs : (i + j) / 2 < s
   ·match d, hd with
    | 0, hd => omega
    | d + 1, hd =>
     have ih := adw D r x1 m x3 x18 n p s hp hn hsn hD d ((i + j) / 2 + 1) j (by omega) hs hj hjl (fun h h1 h2 => hq h (by omega) h2) h
     refine (ih.and (Ev.of 5 fun k hk => hk)).step fun k ⟨hk, hk5⟩ => ?_
     rw [ay.l4, if_pos (by omega), Hl i j (by omega), ql p _ q1 (by omega), if_pos (by omega), if_pos (by omega), if_pos (by omega), if_pos (by omega), yM _ _ k hk5, Option.bind_some, if_neg (by rw [QF, q]; simpa using hs), lG _ (by omega)]
     exact hk
   ·match d, hd with
    | 0, hd => omega
    | d + 1, hd =>
     have ih := adw D r x1 m x3 x18 n p s hp hn hsn hD d i ((i + j) / 2) (by omega) hi (by omega) (by omega) (fun h h1 h2 => hq h h1 (by omega)) h
     refine (ih.and (Ev.of 5 fun k hk => hk)).step fun k ⟨hk, hk5⟩ => ?_
     rw [ay.l4, if_pos (by omega), Hl i j (by omega), ql p _ q1 (by omega), if_pos (by omega), if_pos (by omega), if_pos (by omega), if_pos (by omega), yM _ _ k hk5, Option.bind_some, if_pos (by rw [QF, q]; simp; omega)]
     exact hk
  ·obtain rfl : i = s := by omega
   refine h.step fun k hk => ?_
   rw [ay.l4, if_neg (by omega), ql n i hsn (by omega)]
   by_cases h1 : i < m
   ·rw [if_pos (by omega)]
    have : decide ((m : Int) < ((n - i : Nat) : Int)) = decide (m < n - i) := by simp only [decide_eq_decide]; omega
    rw [this]
    simpa [h1] using hk
   ·rw [if_neg (by omega)]
    simpa [h1] using hk
/-- one value goes behind a run -/
theorem ab3 (T : List bC) (s : Nat) : ∀ (B W : List bC) (x : bC), W.length + B.length + 1 = s → W.length + B.length + T.length < 90000 → Ev fun k => ay.l1 k (W ++ x :: (B ++ T)) (s : Int) (W.length : Int) = some (W ++ B ++ x :: T)
 | [], W, x, hs, hl => by
  simp only [List.length_nil] at hs
  refine Ev.step (Ev.all True trivial) fun k _ => ?_
  rw [ay.l1, qK s (by omega) (by omega), if_neg (by omega)]
  simp
 | y :: B, W, x, hs, hl => by
  simp only [List.length_cons] at hs hl
  have ih := ab3 T s B (W ++ [y]) x (by simp; omega) (by simp; omega)
  refine ih.step fun k hk => ?_
  have hlen : (W ++ x :: (y :: B ++ T)).length = W.length + B.length + T.length + 2 := by simp; omega
  have e1 : aj (W ++ x :: (y :: B ++ T)) (W.length : Int) = x := rd1 W x _ _ rfl
  have e2 : aj (W ++ x :: (y :: B ++ T)) ((W.length + 1 : Nat) : Int) = y := by
   have := rd1 (W ++ [x]) y (B ++ T) (W.length + 1) (by simp)
   simpa using this
  have e3 := aMR W x y (B ++ T) W.length rfl
  rw [ay.l1, qK s (by omega) (by omega), if_pos (by omega), lG _ (by omega), if_pos (by omega), if_pos (by omega), if_pos (by omega), if_pos (by omega), e1, e2, eta, eta, Int.toNat_natCast, Int.toNat_natCast]
  rw [show W ++ x :: (y :: B ++ T) = W ++ x :: y :: (B ++ T) from rfl, e3]
  have e4 : (W ++ [y]).length = W.length + 1 := by simp
  rw [e4] at hk
  simpa using hk
/-- one value goes ahead of a run -/
theorem ag6 (W : List bC) (s : Nat) (hs : W.length = s) : ∀ (n : Nat) (B T : List bC) (x : bC), B.length = n → W.length + B.length + T.length < 90000 → Ev fun k => ay.l3 k (W ++ B ++ x :: T) (s : Int) ((W.length + n : Nat) : Int) = some (W ++ x :: (B ++ T))
 | 0, B, T, x, hB, hl => by
  have : B = [] := List.eq_nil_of_length_eq_zero hB
  subst this
  refine Ev.step (Ev.all True trivial) fun k _ => ?_
  rw [ay.l3, if_neg (by omega)]
  simp
 | n + 1, B, T, x, hB, hl => by
  obtain ⟨B', y, rfl, hB'⟩ := Fj hB
  simp only [List.length_append, List.length_cons, List.length_nil] at hl
  have ih := ag6 W s hs n B' (y :: T) x hB' (by simp; omega)
  refine ih.step fun k hk => ?_
  have hlen : (W ++ (B' ++ [y]) ++ x :: T).length = W.length + B'.length + T.length + 2 := by simp; omega
  have e1 : aj (W ++ (B' ++ [y]) ++ x :: T) ((W.length + (n + 1) : Nat) : Int) = x := rd1 _ x T _ (by simp; omega)
  have e2 : aj (W ++ (B' ++ [y]) ++ x :: T) ((W.length + (n + 1) - 1 : Nat) : Int) = y := by
   have := rd1 (W ++ B') y (x :: T) (W.length + (n + 1) - 1) (by simp; omega)
   simpa using this
  have e3 := sw2 (W ++ B') y x T (W.length + n) (by simp; omega)
  rw [ay.l3, if_pos (by omega), qK _ (by omega) (by omega), if_pos (by omega), if_pos (by omega), if_pos (by omega), if_pos (by omega), e1, e2, eta, eta, Int.toNat_natCast, Int.toNat_natCast, show W.length + (n + 1) - 1 = W.length + n by omega, show W.length + (n + 1) = W.length + n + 1 by omega, show W ++ (B' ++ [y]) ++ x :: T = W ++ B' ++ y :: x :: T by simp, e3, hk]
  simp
theorem alI (q : Nat → Bool) : ∀ (d st r : Nat), r - st = d → st ≤ r → (∀ h h', st ≤ h → h ≤ h' → h' < r → q h = true → q h' = true) → ∃ s, st ≤ s ∧ s ≤ r ∧ ∀ h, st ≤ h → h < r → q h = decide (s ≤ h)
 | 0, st, r, hd, h, hm => ⟨st, Nat.le_refl _, h, fun h h1 h2 => by omega⟩
 | d + 1, st, r, hd, h, hm => by
  cases hq : q st with
  | true =>
   refine ⟨st, Nat.le_refl _, h, fun h h1 h2 => ?_⟩
   rw [hm st h (Nat.le_refl _) h1 h2 hq, decide_eq_true h1]
  | false =>
   obtain ⟨s, h1, h2, h3⟩ := alI q d (st + 1) r (by omega) (by omega) (fun a b ha hab hb => hm a b (by omega) hab hb)
   refine ⟨s, by omega, h2, fun h h4 h5 => ?_⟩
   rcases Nat.lt_or_ge st h with h6 | h6
   ·exact h3 h h6 h5
   ·obtain rfl : h = st := by omega
    rw [hq, eq_comm, decide_eq_false_iff_not]
    omega
theorem W9 {l : List bC} (h : Sd lt l) (i j : Nat) (hi : i ≤ j) (hj : j < l.length) : lt l[j] (l[i]'(by omega)) = false := by
 rcases Nat.lt_or_ge i j with h1 | h1
 ·exact List.pairwise_iff_getElem.1 h i j (by omega) hj h1
 ·obtain rfl : i = j := by omega
  exact sw.irr _
theorem QG {l : List bC} {n : Nat} {x : bC} (h : x ∈ l.take n) : ∃ i, ∃ hi : i < l.length, i < n ∧ l[i] = x := by
 obtain ⟨i, hi, e⟩ := List.mem_take_iff_getElem.1 h
 exact ⟨i, by omega, by omega, e⟩
theorem QH {l : List bC} {n : Nat} {x : bC} (h : x ∈ l.drop n) : ∃ i, ∃ hi : i < l.length, n ≤ i ∧ l[i] = x := by
 obtain ⟨i, hi, e⟩ := List.mem_drop_iff_getElem.1 h
 exact ⟨n + i, by omega, by omega, e⟩
set_option maxHeartbeats 4000000 in
theorem sym : ∀ (n : Nat) (X A B Y : List bC), A.length + B.length ≤ n → 0 < A.length → 0 < B.length → Sd lt A → Sd lt B → X.length + A.length + B.length + Y.length < 80000 → ∀ a m b : Nat, a = X.length → m = X.length + A.length → b = X.length + A.length + B.length → ∃ M, Sd lt M ∧ St lt M (A ++ B) ∧ M.length = A.length + B.length ∧ Ev fun k => ay.f k (X ++ A ++ B ++ Y) (a : Int) (m : Int) (b : Int) = some (X ++ M ++ Y)
 | 0, X, A, B, Y, hn, hA, hB, sA, sB, hl, a, m, b, ea, em, eb => by omega
 | n + 1, X, A, B, Y, hn, hA, hB, sA, sB, hl, a, m, b, ea, em, eb => by
  have hlen : (X ++ A ++ B ++ Y).length = X.length + A.length + B.length + Y.length := by simp; omega
  have dA : ∀ i, (hi : i < A.length) → aj (X ++ A ++ B ++ Y) ((a + i : Nat) : Int) = A[i] := by
   intro i hi
   have := rdP X A (B ++ Y) i hi (a + i) (by omega)
   simpa using this
  have dB : ∀ i, (hi : i < B.length) → aj (X ++ A ++ B ++ Y) ((m + i : Nat) : Int) = B[i] := by
   intro i hi
   have := rdP (X ++ A) B Y i hi (m + i) (by simp; omega)
   simpa using this
  by_cases c1 : A.length = 1
  ·-- one ahead
   obtain ⟨x, rfl⟩ : ∃ x, A = [x] := List.length_eq_one_iff.1 c1
   obtain ⟨B1, B2, rfl, h1, h2⟩ := ag5 sw x B sB
   have hlen : (X ++ [x] ++ (B1 ++ B2) ++ Y).length = X.length + 1 + (B1.length + B2.length) + Y.length := by simp; omega
   simp only [List.length_append, List.length_cons, List.length_nil] at hl eb em hB hn
   refine ⟨B1 ++ x :: B2, ZT sw sB (fun y hy => asym sw (h1 y hy)) h2, ?_, by simp; omega, ?_⟩
   ·have h5 : St lt (B1 ++ [x]) ([x] ++ B1) := (St.swap sw (u := [x]) (v := B1) (fun y hy z hz => by rw [List.mem_singleton.1 hy]; exact h1 z hz)).symm
    have h6 := h5.app (St.refl B2)
    simpa using h6
   ·have hr := ab3 (B2 ++ Y) (a + 1 + B1.length) B1 X x (by omega) (by simp; omega)
    have hb := adu (X ++ [x] ++ (B1 ++ B2) ++ Y) (X ++ (B1 ++ x :: B2) ++ Y) a (a + 1 + B1.length) (by rw [hlen]; omega) (by rw [hlen]; omega) (b - m) m b (by omega) (by omega) (by omega) (by rw [hlen]; omega) (by
     intro h hh1 hh2
     have d0 := dA 0 (by simp)
     rw [Nat.add_zero] at d0
     obtain ⟨j, rfl⟩ : ∃ j, h = m + j := ⟨h - m, by omega⟩
     have d1 := dB j (by simp; omega)
     rw [d0, d1]
     simp only [List.getElem_cons_zero]
     rcases Nat.lt_or_ge j B1.length with hj | hj
     ·rw [List.getElem_append_left hj, h1 _ (List.getElem_mem _), eq_comm, decide_eq_true_eq]
      omega
     ·rw [List.getElem_append_right hj, h2 _ (List.getElem_mem _), eq_comm, decide_eq_false_iff_not]
      omega) (by
     refine hr.mono fun k hk => ?_
     rw [ea] at *
     simpa using hk)
    refine hb.step fun k hk => ?_
    rw [ay.f, ql m a (by omega) (by omega), if_pos (by omega)]
    exact hk
  ·by_cases c2 : B.length = 1
   ·obtain ⟨x, rfl⟩ : ∃ x, B = [x] := List.length_eq_one_iff.1 c2
    obtain ⟨A1, A2, rfl, h1, h2⟩ := Tc sw x A sA
    have hlen : (X ++ (A1 ++ A2) ++ [x] ++ Y).length = X.length + (A1.length + A2.length) + 1 + Y.length := by simp; omega
    simp only [List.length_append, List.length_cons, List.length_nil] at hl eb em hA hn c1
    refine ⟨A1 ++ x :: A2, ZT sw sA h1 (fun y hy => asym sw (h2 y hy)), ?_, by simp; omega, ?_⟩
    ·have h5 : St lt ([x] ++ A2) (A2 ++ [x]) := (St.swap sw (u := A2) (v := [x]) (fun y hy z hz => by rw [List.mem_singleton.1 hz]; exact h2 y hy)).symm
     have h6 := (St.refl (lt := lt) A1).app h5
     simpa using h6
    ·have hr := ag6 (X ++ A1) (a + A1.length) (by simp; omega) A2.length A2 Y x rfl (by simp; omega)
     have hb := adv (X ++ (A1 ++ A2) ++ [x] ++ Y) (X ++ (A1 ++ x :: A2) ++ Y) m (a + A1.length) (by rw [hlen]; omega) (by rw [hlen]; omega) (m - a) a m (by omega) (by omega) (by omega) (by rw [hlen]; omega) (by
      intro h hh1 hh2
      have d0 := dB 0 (by simp)
      rw [Nat.add_zero] at d0
      obtain ⟨j, rfl⟩ : ∃ j, h = a + j := ⟨h - a, by omega⟩
      have d1 := dA j (by simp; omega)
      rw [d0, d1]
      simp only [List.getElem_cons_zero]
      rcases Nat.lt_or_ge j A1.length with hj | hj
      ·rw [List.getElem_append_left hj, h1 _ (List.getElem_mem _), eq_comm, decide_eq_false_iff_not]
       omega
      ·rw [List.getElem_append_right hj, h2 _ (List.getElem_mem _), eq_comm, decide_eq_true_eq]
       omega) (by
      refine hr.mono fun k hk => ?_
      have e1 : (X ++ A1).length + A2.length = m := by simp; omega
      rw [e1] at hk
      simpa using hk)
     refine hb.step fun k hk => ?_
     rw [ay.f, ql m a (by omega) (by omega), if_neg (by omega), ql b m (by omega) (by omega), if_pos (by omega)]
     exact hk
   ·-- both longer than one
    obtain ⟨mid, hmid⟩ : ∃ mid, (a + b) / 2 = mid := ⟨_, rfl⟩
    obtain ⟨st, hst⟩ : ∃ st, (if m > mid then mid + m - b else a) = st := ⟨_, rfl⟩
    obtain ⟨r0, hr0⟩ : ∃ r0, (if m > mid then mid else m) = r0 := ⟨_, rfl⟩
    have hb1 : a ≤ st ∧ st ≤ r0 ∧ r0 ≤ m ∧ r0 ≤ mid ∧ mid + m - b ≤ st := by
     rw [← hst, ← hr0]
     split <;> omega
    have hex : (m > mid ∧ st = mid + m - b ∧ r0 = mid) ∨ (m ≤ mid ∧ st = a ∧ r0 = m) := by
     rw [← hst, ← hr0]
     split
     ·exact .inl ⟨by assumption, rfl, rfl⟩
     ·exact .inr ⟨by omega, rfl, rfl⟩
    -- the comparison by index
    have hcmp : ∀ h, st ≤ h → h < r0 → ∃ h1 : h - a < A.length, ∃ h2 : mid + m - 1 - h - m < B.length, aj (X ++ A ++ B ++ Y) (h : Int) = A[h - a] ∧ aj (X ++ A ++ B ++ Y) ((mid + m - 1 - h : Nat) : Int) = B[mid + m - 1 - h - m] := by
     intro h hh1 hh2
     refine ⟨by omega, by omega, ?_, ?_⟩
     ·have := dA (h - a) (by omega)
      rw [show a + (h - a) = h by omega] at this
      exact this
     ·have := dB (mid + m - 1 - h - m) (by omega)
      rw [show m + (mid + m - 1 - h - m) = mid + m - 1 - h by omega] at this
      exact this
    obtain ⟨s, hs1, hs2, hs3⟩ := alI (fun h => lt (aj (X ++ A ++ B ++ Y) ((mid + m - 1 - h : Nat) : Int)) (aj (X ++ A ++ B ++ Y) (h : Int))) (r0 - st) st r0 rfl hb1.2.1 (by
     intro h h' hh1 hh2 hh3 hq
     obtain ⟨p1, p2, p3, p4⟩ := hcmp h hh1 (by omega)
     obtain ⟨q1, q2, q3, q4⟩ := hcmp h' (by omega) hh3
     rw [p3, p4] at hq
     rw [q3, q4]
     have u1 := W9 sA (h - a) (h' - a) (by omega) q1
     have u2 := W9 sB (mid + m - 1 - h' - m) (mid + m - 1 - h - m) (by omega) p2
     exact alH sw (as7 sw u2 hq) u1)
    obtain ⟨e, he⟩ : ∃ e, mid + m - s = e := ⟨_, rfl⟩
    have hem : m ≤ e := by omega
    have heb : e ≤ b := by omega
    obtain ⟨A1, hA1⟩ : ∃ A1, A.take (s - a) = A1 := ⟨_, rfl⟩
    obtain ⟨A2, hA2⟩ : ∃ A2, A.drop (s - a) = A2 := ⟨_, rfl⟩
    obtain ⟨B1, hB1⟩ : ∃ B1, B.take (e - m) = B1 := ⟨_, rfl⟩
    obtain ⟨B2, hB2⟩ : ∃ B2, B.drop (e - m) = B2 := ⟨_, rfl⟩
    have lA1 : A1.length = s - a := by rw [← hA1, List.length_take]; omega
    have lA2 : A2.length = m - s := by rw [← hA2, List.length_drop]; omega
    have lB1 : B1.length = e - m := by rw [← hB1, List.length_take]; omega
    have lB2 : B2.length = b - e := by rw [← hB2, List.length_drop]; omega
    have eA : A = A1 ++ A2 := by rw [← hA1, ← hA2, List.take_append_drop]
    have eB : B = B1 ++ B2 := by rw [← hB1, ← hB2, List.take_append_drop]
    have x21 : ∀ x ∈ A2, ∀ y ∈ B1, lt y x = true := by
     intro x hx y hy
     rw [← hA2] at hx
     rw [← hB1] at hy
     obtain ⟨i, hi, hi2, rfl⟩ := QH hx
     obtain ⟨j, hj, hj2, rfl⟩ := QG hy
     have hsr : s < r0 := by omega
     obtain ⟨p1, p2, p3, p4⟩ := hcmp s hs1 hsr
     have q := hs3 s hs1 hsr
     rw [p3, p4, decide_eq_true (Nat.le_refl s)] at q
     have u1 := W9 sA (s - a) i (by omega) hi
     have u2 := W9 sB j (mid + m - 1 - s - m) (by omega) p2
     exact alH sw (as7 sw u2 q) u1
    have x12 : ∀ x ∈ A1, ∀ y ∈ B2, lt y x = false := by
     intro x hx y hy
     rw [← hA1] at hx
     rw [← hB2] at hy
     obtain ⟨i, hi, hi2, rfl⟩ := QG hx
     obtain ⟨j, hj, hj2, rfl⟩ := QH hy
     have hss : st < s := by omega
     obtain ⟨p1, p2, p3, p4⟩ := hcmp (s - 1) (by omega) (by omega)
     have q := hs3 (s - 1) (by omega) (by omega)
     rw [p3, p4, decide_eq_false (by omega)] at q
     have u1 := W9 sA i (s - 1 - a) (by omega) p1
     have u2 := W9 sB (mid + m - 1 - (s - 1) - m) j (by omega) hj
     exact le_trans sw (le_trans sw u1 q) u2
    have sA1 : Sd lt A1 := (eA ▸ sA).left
    have sA2 : Sd lt A2 := (eA ▸ sA).right
    have sB1 : Sd lt B1 := (eB ▸ sB).left
    have sB2 : Sd lt B2 := (eB ▸ sB).right
    have xA : ∀ x ∈ A1, ∀ y ∈ A2, lt y x = false := (eA ▸ sA).cross
    have xB : ∀ x ∈ B1, ∀ y ∈ B2, lt y x = false := (eB ▸ sB).cross
    -- the two smaller merges
    obtain ⟨M1, sM1, tM1, lM1, hM1⟩ : ∃ M1, Sd lt M1 ∧ St lt M1 (A1 ++ B1) ∧ M1.length = A1.length + B1.length ∧ ((a < s ∧ s < mid) → Ev fun k => ay.f k (X ++ A1 ++ B1 ++ (A2 ++ B2 ++ Y)) (a : Int) (s : Int) (mid : Int) = some (X ++ M1 ++ (A2 ++ B2 ++ Y))) ∧ (¬ (a < s ∧ s < mid) → M1 = A1 ++ B1) := by
     by_cases hh : a < s ∧ s < mid
     ·obtain ⟨M, h1, h2, h3, h4⟩ := sym n X A1 B1 (A2 ++ B2 ++ Y) (by omega) (by omega) (by omega) sA1 sB1 (by simp only [List.length_append]; omega) a s mid ea (by omega) (by omega)
      exact ⟨M, h1, h2, h3, fun _ => h4, fun h => absurd hh h⟩
     ·refine ⟨A1 ++ B1, ?_, St.refl _, by simp, fun h => absurd h hh, fun _ => rfl⟩
      rcases Nat.eq_zero_or_pos A1.length with h0 | h0
      ·rw [List.eq_nil_of_length_eq_zero h0, List.nil_append]
       exact sB1
      ·have : B1 = [] := List.eq_nil_of_length_eq_zero (by omega)
       rw [this, List.append_nil]
       exact sA1
    obtain ⟨M2, sM2, tM2, lM2, hM2⟩ : ∃ M2, Sd lt M2 ∧ St lt M2 (A2 ++ B2) ∧ M2.length = A2.length + B2.length ∧ ((mid < e ∧ e < b) → Ev fun k => ay.f k (X ++ M1 ++ A2 ++ B2 ++ Y) (mid : Int) (e : Int) (b : Int) = some (X ++ M1 ++ M2 ++ Y)) ∧ (¬ (mid < e ∧ e < b) → M2 = A2 ++ B2) := by
     by_cases hh : mid < e ∧ e < b
     ·obtain ⟨M, h1, h2, h3, h4⟩ := sym n (X ++ M1) A2 B2 Y (by omega) (by omega) (by omega) sA2 sB2 (by simp only [List.length_append]; omega) mid e b (by simp only [List.length_append]; omega) (by simp only [List.length_append]; omega) (by simp only [List.length_append]; omega)
      exact ⟨M, h1, h2, h3, fun _ => h4, fun h => absurd hh h⟩
     ·refine ⟨A2 ++ B2, ?_, St.refl _, by simp, fun h => absurd h hh, fun _ => rfl⟩
      rcases Nat.eq_zero_or_pos A2.length with h0 | h0
      ·rw [List.eq_nil_of_length_eq_zero h0, List.nil_append]
       exact sB2
      ·have : B2 = [] := List.eq_nil_of_length_eq_zero (by omega)
       rw [this, List.append_nil]
       exact sA2
    refine ⟨M1 ++ M2, ?_, ?_, by simp; omega, ?_⟩
    ·refine Sd.app sM1 sM2 ?_
     intro x hx y hy
     have hx2 := List.mem_append.1 (St.mem sw tM1 x hx)
     have hy2 := List.mem_append.1 (St.mem sw tM2 y hy)
     rcases hx2 with hx2 | hx2
     ·rcases hy2 with hy2 | hy2
      ·exact xA x hx2 y hy2
      ·exact x12 x hx2 y hy2
     ·rcases hy2 with hy2 | hy2
      ·exact asym sw (x21 y hy2 x hx2)
      ·exact xB x hx2 y hy2
    ·have h5 : St lt (B1 ++ A2) (A2 ++ B1) := (St.swap sw (u := A2) (v := B1) x21).symm
     have h6 := ((St.refl (lt := lt) A1).app h5).app (St.refl B2)
     have h7 := tM1.app tM2
     rw [eA, eB]
     refine h7.trans ?_
     simpa using h6
    ·-- the walk down
     have k9 : Ev fun k => ay.j9 k (X ++ M1 ++ A2 ++ B2 ++ Y) (b : Int) (mid : Int) (e : Int) = some (X ++ (M1 ++ M2) ++ Y) := by
      by_cases hh : mid < e ∧ e < b
      ·refine (hM2.1 hh).step fun k hk => ?_
       rw [ay.j9, if_pos (by omega), if_pos (by omega), hk, Option.bind_some]
       simp
      ·rw [hM2.2 hh]
       refine Ev.step (Ev.all True trivial) fun k _ => ?_
       rw [ay.j9]
       by_cases h1 : mid < e
       ·rw [if_pos (by omega), if_neg (by omega)]
        simp
       ·rw [if_neg (by omega)]
        simp
     have k7 : Ev fun k => ay.j7 k (X ++ A1 ++ B1 ++ A2 ++ B2 ++ Y) (a : Int) (b : Int) (mid : Int) (s : Int) (e : Int) = some (X ++ (M1 ++ M2) ++ Y) := by
      by_cases hh : a < s ∧ s < mid
      ·have h8 : Ev fun k => ay.j8 k (X ++ A1 ++ B1 ++ A2 ++ B2 ++ Y) (a : Int) (b : Int) (mid : Int) (s : Int) (e : Int) true = some (X ++ (M1 ++ M2) ++ Y) := by
        refine ((hM1.1 hh).and k9).step fun k ⟨hk1, hk2⟩ => ?_
        rw [ay.j8, if_pos rfl]
        rw [show X ++ A1 ++ B1 ++ (A2 ++ B2 ++ Y) = X ++ A1 ++ B1 ++ A2 ++ B2 ++ Y by simp] at hk1
        rw [hk1, Option.bind_some, show X ++ M1 ++ (A2 ++ B2 ++ Y) = X ++ M1 ++ A2 ++ B2 ++ Y by simp]
        exact hk2
       refine h8.step fun k hk => ?_
       rw [ay.j7, if_pos (by omega), decide_eq_true (by omega)]
       exact hk
      ·have h8 : Ev fun k => ay.j8 k (X ++ A1 ++ B1 ++ A2 ++ B2 ++ Y) (a : Int) (b : Int) (mid : Int) (s : Int) (e : Int) false = some (X ++ (M1 ++ M2) ++ Y) := by
        refine k9.step fun k hk => ?_
        rw [ay.j8, if_neg (by decide)]
        rw [hM1.2 hh] at hk
        rw [hM1.2 hh]
        simpa using hk
       refine h8.step fun k hk => ?_
       rw [ay.j7]
       by_cases h1 : a < s
       ·rw [if_pos (by omega), decide_eq_false (by omega)]
        exact hk
       ·rw [if_neg (by omega)]
        exact hk
     have k6 : Ev fun k => ay.j6 k (X ++ A ++ B ++ Y) (a : Int) (m : Int) (b : Int) (mid : Int) (s : Int) ((mid + m - s : Nat) : Int) (decide (s < m) && decide (m < mid + m - s)) = some (X ++ (M1 ++ M2) ++ Y) := by
      rw [he, eA, eB]
      by_cases hh : s < m ∧ m < e
      ·have hr := rot (X ++ A1) A2 B1 (B2 ++ Y) (by omega) (by omega) (by simp only [List.length_append]; omega) s m e (by simp only [List.length_append]; omega) (by simp only [List.length_append]; omega) (by simp only [List.length_append]; omega)
       refine (hr.and k7).step fun k ⟨hk1, hk2⟩ => ?_
       rw [ay.j6, if_pos (by simp; omega)]
       rw [show X ++ A1 ++ A2 ++ B1 ++ (B2 ++ Y) = X ++ (A1 ++ A2) ++ (B1 ++ B2) ++ Y by simp] at hk1
       rw [hk1, Option.bind_some, show X ++ A1 ++ B1 ++ A2 ++ (B2 ++ Y) = X ++ A1 ++ B1 ++ A2 ++ B2 ++ Y by simp]
       exact hk2
      ·refine k7.step fun k hk => ?_
       rw [ay.j6, if_neg (by simp; omega)]
       have : B1 ++ A2 = A2 ++ B1 := by
        rcases Nat.lt_or_ge s m with h1 | h1
        ·have : B1 = [] := List.eq_nil_of_length_eq_zero (by omega)
         rw [this, List.append_nil, List.nil_append]
        ·have : A2 = [] := List.eq_nil_of_length_eq_zero (by omega)
         rw [this, List.append_nil, List.nil_append]
       rw [show X ++ A1 ++ B1 ++ A2 ++ B2 ++ Y = X ++ A1 ++ (B1 ++ A2) ++ B2 ++ Y by simp, this] at hk
       simpa using hk
     have k4 := adw (X ++ A ++ B ++ Y) (X ++ (M1 ++ M2) ++ Y) a m b mid (mid + m) (mid + m - 1) s (by omega) (by omega) (by omega) (by rw [hlen]; omega) (r0 - st) st r0 (Nat.le_refl _) hs1 hs2 (by rw [hlen]; omega) (by
      intro h hh1 hh2
      exact ⟨by omega, by rw [hlen]; omega, hs3 h hh1 hh2⟩) k6
     have kj : Ev fun k => ay.j4 k (X ++ A ++ B ++ Y) (a : Int) (m : Int) (b : Int) (mid : Int) ((mid + m : Nat) : Int) (st : Int) (r0 : Int) = some (X ++ (M1 ++ M2) ++ Y) := by
      refine k4.step fun k hk => ?_
      rw [ay.j4, qK _ (by omega) (by omega)]
      exact hk
     refine kj.step fun k hk => ?_
     rw [ay.f, ql m a (by omega) (by omega), if_neg (by omega), ql b m (by omega) (by omega), if_neg (by omega), Hl a b (by omega), hmid, BZ mid m (by omega)]
     rcases hex with ⟨h1, h2, h3⟩ | ⟨h1, h2, h3⟩
     ·rw [if_pos (by omega), ql (mid + m) b (by omega) (by omega), ← h2]
      rw [h3] at hk
      exact hk
     ·rw [if_neg (by omega)]
      rw [h2, h3] at hk
      exact hk
/-! ### the stable sort -/
theorem W_ (n : Nat) : ∀ (d : Nat) (P R : List bC) (a : Nat), R.length ≤ d → a = P.length → n = P.length + R.length → n < 80000 → ∃ R', Bk lt 20 R' ∧ St lt R' R ∧ R'.length = R.length ∧ ∀ res, (Ev fun k => bZ.l1 k (P ++ R') (n : Int) 20 = some res) → Ev fun k => bZ.l0 k (P ++ R) (n : Int) 20 (a : Int) ((a + 20 : Nat) : Int) = some res
 | d, P, R, a, hd, ha, hn, hl => by
  by_cases h : 20 ≤ R.length
  ·match d, hd with
   | 0, hd => omega
   | d + 1, hd =>
    obtain ⟨A, R1, rfl, hA⟩ : ∃ A R1, R = A ++ R1 ∧ A.length = 20 := ⟨R.take 20, R.drop 20, (List.take_append_drop _ _).symm, by rw [List.length_take]; omega⟩
    rw [List.length_append] at hd hn h
    obtain ⟨A', s1, s2, s3, s4⟩ := as8 P A R1 (by omega)
    obtain ⟨R', b1, b2, b3, b4⟩ := W_ n d (P ++ A') R1 (a + 20) (by omega) (by rw [List.length_append]; omega) (by rw [List.length_append]; omega) hl
    refine ⟨A' ++ R', .cons A' R' (by omega) s1 b1, s2.app b2, by simp only [List.length_append]; omega, fun res hr => ?_⟩
    have h2 := b4 res (by simpa using hr)
    refine (s4.and h2).step fun k ⟨hk1, hk2⟩ => ?_
    rw [bZ.l0, if_pos (by omega)]
    have e1 : P.length + A.length = a + 20 := by omega
    rw [e1, ← ha] at hk1
    rw [show P ++ (A ++ R1) = P ++ A ++ R1 by simp, hk1, Option.bind_some, show (20 : Int) = ((20 : Nat) : Int) from rfl, BZ _ _ (by omega)]
    exact hk2
  ·obtain ⟨R', s1, s2, s3, s4⟩ := as8 P R [] (by simp only [List.length_nil]; omega)
   refine ⟨R', .last R' (by omega) s1, s2, s3, fun res hr => ?_⟩
   refine (s4.and hr).step fun k ⟨hk1, hk2⟩ => ?_
   rw [bZ.l0, if_neg (by omega)]
   rw [List.append_nil, List.append_nil, ← ha, show a + R.length = n by omega] at hk1
   rw [hk1, Option.bind_some]
   exact hk2
theorem ab4 (n bs : Nat) (hb : 0 < bs) (hbs : bs < 100000) : ∀ (d : Nat) (P R : List bC) (a : Nat), R.length ≤ d → Bk lt bs R → a = P.length → n = P.length + R.length → n < 80000 → ∃ R', Bk lt (2 * bs) R' ∧ St lt R' R ∧ R'.length = R.length ∧ ∀ res, (Ev fun k => bZ.l1 k (P ++ R') (n : Int) ((2 * bs : Nat) : Int) = some res) → Ev fun k => bZ.l2 k (P ++ R) (n : Int) (bs : Int) (a : Int) ((a + 2 * bs : Nat) : Int) = some res
 | d, P, R, a, hd, hR, ha, hn, hl => by
  have hw : wrap64 ((bs : Int) * 2) = ((2 * bs : Nat) : Int) := by rw [m_ (by omega) (by omega)]; omega
  have hw2 : wrap64 (2 * (bs : Int)) = ((2 * bs : Nat) : Int) := by rw [m_ (by omega) (by omega)]; omega
  -- nothing to merge
  have short : R.length ≤ bs → Sd lt R → ∃ R', Bk lt (2 * bs) R' ∧ St lt R' R ∧ R'.length = R.length ∧ ∀ res, (Ev fun k => bZ.l1 k (P ++ R') (n : Int) ((2 * bs : Nat) : Int) = some res) → Ev fun k => bZ.l2 k (P ++ R) (n : Int) (bs : Int) (a : Int) ((a + 2 * bs : Nat) : Int) = some res := by
   intro h1 h2
   refine ⟨R, .last R (by omega) h2, St.refl _, rfl, fun res hr => hr.step fun k hk => ?_⟩
   rw [bZ.l2, if_neg (by omega), BZ a bs (by omega), if_neg (by omega), hw]
   exact hk
  -- two runs, and what is behind them
  have both : ∀ A B R2 : List bC, R = A ++ B ++ R2 → A.length = bs → Sd lt A → 0 < B.length → B.length ≤ bs → Sd lt B → (B.length = bs ∨ R2 = []) → Bk lt bs R2 → ∃ R', Bk lt (2 * bs) R' ∧ St lt R' R ∧ R'.length = R.length ∧ ∀ res, (Ev fun k => bZ.l1 k (P ++ R') (n : Int) ((2 * bs : Nat) : Int) = some res) → Ev fun k => bZ.l2 k (P ++ R) (n : Int) (bs : Int) (a : Int) ((a + 2 * bs : Nat) : Int) = some res := by
   intro A B R2 e hA sA hB0 hB sB hor hR2
   have hlen := congrArg List.length e
   simp only [List.length_append] at hlen
   by_cases hfull : B.length = bs
   ·match d, hd with
    | 0, hd => omega
    | d + 1, hd =>
     obtain ⟨M, m1, m2, m3, m4⟩ := sym (A.length + B.length) P A B R2 (Nat.le_refl _) (by omega) hB0 sA sB (by omega) a (a + bs) (a + 2 * bs) ha (by omega) (by omega)
     obtain ⟨R', b1, b2, b3, b4⟩ := ab4 n bs hb hbs d (P ++ M) R2 (a + 2 * bs) (by omega) hR2 (by rw [List.length_append]; omega) (by rw [List.length_append]; omega) hl
     refine ⟨M ++ R', .cons M R' (by omega) m1 b1, ?_, by rw [List.length_append]; omega, fun res hr => ?_⟩
     ·rw [e]
      exact m2.app b2
     ·have h2 := b4 res (by simpa using hr)
      refine (m4.and h2).step fun k ⟨hk1, hk2⟩ => ?_
      rw [bZ.l2, if_pos (by omega), BZ a bs (by omega), hw2]
      rw [e, show P ++ (A ++ B ++ R2) = P ++ A ++ B ++ R2 by simp, hk1, Option.bind_some, BZ _ _ (by omega)]
      exact hk2
   ·have hR0 : R2 = [] := by
     rcases hor with h | h
     ·exact absurd h hfull
     ·exact h
    subst hR0
    simp only [List.length_nil] at hlen
    obtain ⟨M, m1, m2, m3, m4⟩ := sym (A.length + B.length) P A B [] (Nat.le_refl _) (by omega) hB0 sA sB (by simp only [List.length_nil]; omega) a (a + bs) n ha (by omega) (by omega)
    refine ⟨M, .last M (by omega) m1, ?_, by omega, fun res hr => ?_⟩
    ·rw [e, List.append_nil]
     exact m2
    ·refine (m4.and hr).step fun k ⟨hk1, hk2⟩ => ?_
     rw [bZ.l2, if_neg (by omega), BZ a bs (by omega), if_pos (by omega), hw]
     rw [e, show P ++ (A ++ B ++ []) = P ++ A ++ B ++ [] by simp, hk1, Option.bind_some, List.append_nil]
     exact hk2
  cases hR with
  | last _ h1 h2 => exact short h1 h2
  | cons A R1 hA sA hR1 =>
   cases hR1 with
   | last _ h1 h2 =>
    rcases Nat.eq_zero_or_pos R1.length with h0 | h0
    ·have : R1 = [] := List.eq_nil_of_length_eq_zero h0
     subst this
     exact short (by simp; omega) (by simpa using sA)
    ·exact both A R1 [] (by simp) hA sA h0 h1 h2 (.inr rfl) (.last [] (by simp) Sd.nil)
   | cons B R2 hB sB hR2 => exact both A B R2 (by simp) hA sA (by omega) (by omega) sB (.inl hB) hR2
theorem as9 (n : Nat) (hl : n < 80000) : ∀ (d bs : Nat) (D : List bC), n - bs ≤ d → 0 < bs → bs < 100000 → Bk lt bs D → D.length = n → ∃ D', Sd lt D' ∧ St lt D' D ∧ D'.length = n ∧ Ev fun k => bZ.l1 k D (n : Int) (bs : Int) = some D'
 | d, bs, D, hd, hb, hbs, hD, hn => by
  by_cases h : bs < n
  ·match d, hd with
   | 0, hd => omega
   | d + 1, hd =>
    obtain ⟨D2, b1, b2, b3, b4⟩ := ab4 n bs hb hbs n [] D 0 (by omega) hD rfl (by simp; omega) hl
    by_cases h2 : 2 * bs < 100000
    ·obtain ⟨D', c1, c2, c3, c4⟩ := as9 n hl d (2 * bs) D2 (by omega) (by omega) h2 b1 (by omega)
     refine ⟨D', c1, c2.trans b2, c3, ?_⟩
     have h3 := b4 D' (by simpa using c4)
     refine h3.step fun k hk => ?_
     have hw2 : wrap64 (2 * (bs : Int)) = ((2 * bs : Nat) : Int) := by rw [m_ (by omega) (by omega)]; omega
     rw [bZ.l1, if_pos (by omega), hw2]
     simpa using hk
    ·have hs := Bk.done (by omega) b1 (by omega)
     refine ⟨D2, hs, b2, by omega, ?_⟩
     have h3 := b4 D2 (Ev.step (Ev.all True trivial) fun k _ => by
      rw [bZ.l1, if_neg (by omega)]
      simp)
     refine h3.step fun k hk => ?_
     have hw2 : wrap64 (2 * (bs : Int)) = ((2 * bs : Nat) : Int) := by rw [m_ (by omega) (by omega)]; omega
     rw [bZ.l1, if_pos (by omega), hw2]
     simpa using hk
  ·have hs := Bk.done hb hD (by omega)
   refine ⟨D, hs, St.refl _, hn, ?_⟩
   refine Ev.step (Ev.all True trivial) fun k _ => ?_
   rw [bZ.l1, if_neg (by omega)]
theorem stable (D : List bC) (hl : D.length < 80000) : ∃ D', Sd lt D' ∧ St lt D' D ∧ D'.length = D.length ∧ Ev fun k => bZ.f k D (D.length : Int) = some D' := by
 obtain ⟨R', b1, b2, b3, b4⟩ := W_ D.length D.length [] D 0 (Nat.le_refl _) rfl (by simp) hl
 obtain ⟨D', c1, c2, c3, c4⟩ := as9 D.length hl D.length 20 R' (by omega) (by omega) (by omega) b1 b3
 refine ⟨D', c1, c2.trans b2, c3, ?_⟩
 have := b4 D' (by simpa using c4)
 refine this.mono fun k hk => ?_
 unfold bZ.f
 simpa using hk
theorem awD (D : List bC) (hl : D.length < 80000) : ∃ D', Sd lt D' ∧ St lt D' D ∧ D'.length = D.length ∧ Ev fun k => lW.f k D = some D' := by
 obtain ⟨D', c1, c2, c3, c4⟩ := stable D hl
 refine ⟨D', c1, c2, c3, c4.mono fun k hk => ?_⟩
 unfold lW.f
 rw [hk, Option.bind_some]
theorem aCA (a b : List bC) (hl : a.length + b.length < 80000) : ∃ D', Sd lt D' ∧ St lt D' (a ++ b) ∧ D'.length = a.length + b.length ∧ Ev fun k => jc.f k a b = some D' := by
 obtain ⟨D', c1, c2, c3, c4⟩ := awD (a ++ b) (by rw [List.length_append]; omega)
 refine ⟨D', c1, c2, by rw [c3, List.length_append], c4.mono fun k hk => ?_⟩
 unfold jc.f eG.f
 have ht : eG.total [a, b] = a.length + b.length := by
  unfold eG.total
  simp
 rw [ht, if_pos (by omega), Option.bind_some, show [a, b].flatten = a ++ b by simp, hk, Option.bind_some]
end Go.Proofs.Ytnklnjghecmihaa.iY
