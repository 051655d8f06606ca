/- For all pivots, ranges and numbers the law PivotSpans answers true: no condition beyond what a Go value of these types can be. -/
import Derived.Test.YtgbnhfppnglamaaQ3x29
import Derived.Test.YtgbnhfppnglamaaQ3x21
import Derived.Test.YtgbnhfppnglamaaQ3x28
import Derived.Test.YtgbnhfppnglamaaQ3x14
import Derived.Test.YtgbnhfppnglamaaQ3SPivotRefSpans
set_option linter.unusedVariables false
set_option linter.unusedSimpArgs false
namespace Go.Proofs.Ytgbnhfppnglamaa.Pure
open Go.RowKit Go.Proofs.Ytgbnhfppnglamaa.Q3 Go.Proofs.Ytgbnhfppnglamaa.PivotSpec Go.Proofs.YtgbnhfppnglamaaW.PrintWords Go.Proofs.YtgbnhfppnglamaaW.PrintLast Go.Proofs.YtgbnhfppnglamaaW.PrintMore Go.Proofs.YtgbnhfppnglamaaW.Mine Go.Proofs.YtgbnhfppnglamaaW.Ord
theorem plive_60 : catchmentlaw13_live.f 60 = some true := by decide +kernel
theorem plive_ge {k : Nat} (h : 60 ≤ k) : catchmentlaw13_live.f k = some true := by
  obtain ⟨m, rfl⟩ : ∃ m, k = 60 + m := ⟨k - 60, by omega⟩
  induction m with
  | zero => exact plive_60
  | succ m ih => exact catchmentlaw13_live.mono (60 + m) _ (ih (by omega))
/-- one end before another one -/
def bef (a b : List UInt8) : Bool := !a.isEmpty && (b.isEmpty || Op.bytesLess a b)
/-- have two ranges something in common -/
def okm (x0 x1 y0 y1 : ByteArray) : Bool := ahd x0.toList x1.toList && (ahd y0.toList y1.toList && ahd (smx x0 y0).toList (if bef y1.toList x1.toList = true then y1 else x1).toList)
theorem before_f (a b : ByteArray) : key_Before.f a b = some (bef a.toList b.toList) := by
  unfold key_Before.f bef
  cases h : a.toList <;> cases h2 : b.toList <;> simp
theorem first_f (a b : ByteArray) : key_First.f a b = some (if bef b.toList a.toList = true then b else a) := by
  simp only [key_First.f, before_f, Option.bind_some]
  split <;> rfl
theorem ok_eq (x0 x1 : ByteArray) (y : pivot_All.T) : pivot_Meets.ok x0 x1 y = okm x0 x1 y.2.1 y.2.2 := by
  have h : ∃ r, key_Meet.f 1 x0 x1 y.2.1 y.2.2 = some r ∧ r.2.2 = okm x0 x1 y.2.1 y.2.2 := by
    simp only [key_Meet.f, rightRange_f, Option.bind_some, key_Meet.j0, first_f, okm]
    cases ahd x0.toList x1.toList with
    | false => exact ⟨_, rfl, rfl⟩
    | true =>
      cases ahd y.2.1.toList y.2.2.toList with
      | false => exact ⟨_, rfl, rfl⟩
      | true =>
        simp only [if_true, Bool.not_true, Bool.false_eq_true, if_false, Bool.true_and]
        cases ahd (smx x0 y.2.1).toList (if bef y.2.2.toList x1.toList = true then y.2.2 else x1).toList with
        | false => exact ⟨_, rfl, rfl⟩
        | true => exact ⟨_, rfl, rfl⟩
  obtain ⟨r, h1, h2⟩ := h
  unfold pivot_Meets.ok
  rw [h1]
  exact h2
theorem smx_comm (a b : ByteArray) : (smx a b).toList = (smx b a).toList := by
  unfold smx
  by_cases h : L a.toList b.toList
  · have h' : ¬ L b.toList a.toList := L_asymm h
    rw [if_pos h, if_neg h']
  · by_cases h' : L b.toList a.toList
    · rw [if_neg h, if_pos h']
    · rw [if_neg h, if_neg h']
      exact eq_of_not h h'
theorem first_comm (a b : ByteArray) : (if bef b.toList a.toList = true then b else a).toList = (if bef a.toList b.toList = true then a else b).toList := by
  unfold bef
  cases ha : a.toList with
  | nil => cases hb : b.toList <;> simp [ha, hb]
  | cons x a' =>
    cases hb : b.toList with
    | nil => simp [ha, hb]
    | cons y b' =>
      rw [← ha, ← hb]
      have e1 : a.toList.isEmpty = false := by rw [ha]; rfl
      have e2 : b.toList.isEmpty = false := by rw [hb]; rfl
      rw [e1, e2]
      simp only [Bool.not_false, Bool.false_or, Bool.true_and]
      by_cases h : L a.toList b.toList
      · have h' : ¬ L b.toList a.toList := L_asymm h
        rw [if_neg h', if_pos h]
      · by_cases h' : L b.toList a.toList
        · rw [if_pos h', if_neg h]
        · rw [if_neg h', if_neg h]
          exact eq_of_not h h'
theorem okm_comm (x0 x1 y0 y1 : ByteArray) : okm x0 x1 y0 y1 = okm y0 y1 x0 x1 := by
  unfold okm
  rw [smx_comm x0 y0, first_comm x1 y1]
  cases ahd x0.toList x1.toList <;> cases ahd y0.toList y1.toList <;> rfl
theorem refMeet_ok (x0 x1 y0 y1 : ByteArray) : ∃ u v, catchmentref02_Meet.f y0 y1 x0 x1 = some (u, v, okm x0 x1 y0 y1) := by
  have e1 : catchmentref02_Meet.ahd = ahd := rfl
  have e2 : catchmentref02_Meet.bef = bef := rfl
  unfold catchmentref02_Meet.f
  rw [okm_comm, e1, e2]
  unfold okm
  cases h1 : ahd y0.toList y1.toList with
  | false => rw [if_neg (fun h => absurd h.1 (by decide))]; exact ⟨_, _, rfl⟩
  | true =>
    cases h2 : ahd x0.toList x1.toList with
    | false => rw [if_neg (fun h => absurd h.2.1 (by decide))]; exact ⟨_, _, rfl⟩
    | true =>
      cases h3 : ahd (smx y0 x0).toList (if bef x1.toList y1.toList = true then x1 else y1).toList with
      | false => rw [if_neg (fun h => absurd h.2.2 (by decide))]; exact ⟨_, _, rfl⟩
      | true => rw [if_pos ⟨rfl, rfl, rfl⟩]; exact ⟨_, _, rfl⟩
/-- the first of which q holds, and how many, of d from i on -/
def bwd (q : Nat → Bool) : Nat → Nat → Nat × Nat
  | 0, _ => (0, 0)
  | d + 1, i => if q i = true then (i, (bwd q d (i + 1)).2 + 1) else bwd q d (i + 1)
theorem bwd_snoc (q : Nat → Bool) : ∀ d i, bwd q (d + 1) i = if q (i + d) = true then (if (bwd q d i).2 = 0 then i + d else (bwd q d i).1, (bwd q d i).2 + 1) else bwd q d i
  | 0, i => by simp [bwd]
  | d + 1, i => by
    rw [bwd, bwd_snoc q d (i + 1), show i + 1 + d = i + (d + 1) by omega]
    rw [show bwd q (d + 1) i = if q i = true then (i, (bwd q d (i + 1)).2 + 1) else bwd q d (i + 1) from rfl]
    cases q i <;> cases q (i + (d + 1)) <;> simp
theorem bwd_le (q : Nat → Bool) : ∀ d i, (bwd q d i).2 ≤ d
  | 0, i => by simp [bwd]
  | d + 1, i => by
    have := bwd_le q d (i + 1)
    rw [bwd]
    split
    · show _ + 1 ≤ _; omega
    · omega
def qq (p : List ByteArray) (a b x0 x1 : ByteArray) (j : Nat) : Bool := okm x0 x1 (pivot_All.part p a b j).1 (pivot_All.part p a b j).2
theorem st_fwd (p : List ByteArray) (a b x0 x1 : ByteArray) : ∀ m : Nat, m < 1000000 → pivot_Meets.st x0 x1 (pivot_All.upto (pivot_All.at p a b) m) = (((bwd (qq p a b x0 x1) m 0).1 : Int), ((bwd (qq p a b x0 x1) m 0).2 : Int))
  | 0, _ => rfl
  | m + 1, hm => by
    have hle := bwd_le (qq p a b x0 x1) m 0
    have ew : wrap64 (((bwd (qq p a b x0 x1) m 0).2 : Int) + 1) = (((bwd (qq p a b x0 x1) m 0).2 + 1 : Nat) : Int) := by rw [wrap64_id (by omega) (by omega)]; omega
    rw [pivot_All.upto_succ, pivot_Meets.st_snoc, st_fwd p a b x0 x1 m (by omega), bwd_snoc, pivot_Meets.step, ok_eq]
    have e : okm x0 x1 (pivot_All.at p a b m).2.1 (pivot_All.at p a b m).2.2 = qq p a b x0 x1 (0 + m) := by rw [Nat.zero_add]; rfl
    rw [e, ew]
    cases qq p a b x0 x1 (0 + m) with
    | false => simp
    | true =>
      by_cases h0 : (bwd (qq p a b x0 x1) m 0).2 = 0
      · simp [h0, pivot_All.at]
      · have h0' : ¬ ((bwd (qq p a b x0 x1) m 0).2 : Int) = 0 := by omega
        simp [h0, h0', pivot_All.at]
theorem parts_at (p : List ByteArray) (a b : ByteArray) (m j : Nat) (h : j < m) : rd_T80 (parts p a b m) (j : Int) = (⟨(pivot_All.part p a b j).1, (pivot_All.part p a b j).2⟩ : S80) := by
  unfold rd_T80 parts pivot_All.upto pivot_All.at
  simp [h]
theorem meets_loop (p : List ByteArray) (a b x0 x1 : ByteArray) (n : Nat) (hn : n < 1000000) : ∀ m k, m ≤ n → m < k →
    catchmentref13_Meets.l0 k (parts p a b n) ((bwd (qq p a b x0 x1) (n - m) m).1 : Int) ((bwd (qq p a b x0 x1) (n - m) m).2 : Int) ((m : Int) - 1) x0 x1 = some (((bwd (qq p a b x0 x1) n 0).1 : Int), ((bwd (qq p a b x0 x1) n 0).2 : Int))
  | m, 0, _, h => absurd h (by omega)
  | 0, k + 1, _, _ => by
    rw [catchmentref13_Meets.l0, if_neg (by omega), Nat.sub_zero]
  | m + 1, k + 1, hm, hk => by
    have hlen := parts_length p a b n
    have hle := bwd_le (qq p a b x0 x1) (n - (m + 1)) (m + 1)
    have ei : ((m + 1 : Nat) : Int) - 1 = (m : Int) := by omega
    have ew : wrap64 ((m : Int) - 1) = (m : Int) - 1 := by unfold wrap64; omega
    have ec : wrap64 (((bwd (qq p a b x0 x1) (n - (m + 1)) (m + 1)).2 : Int) + 1) = (((bwd (qq p a b x0 x1) (n - (m + 1)) (m + 1)).2 + 1 : Nat) : Int) := by rw [wrap64_id (by omega) (by omega)]; omega
    have ih := meets_loop p a b x0 x1 n hn m k (by omega) (by omega)
    obtain ⟨u, v, hM⟩ := refMeet_ok x0 x1 (pivot_All.part p a b m).1 (pivot_All.part p a b m).2
    rw [show n - m = (n - (m + 1)) + 1 by omega, bwd] at ih
    rw [catchmentref13_Meets.l0, ei, if_pos (by omega), if_pos (by omega), if_pos (by omega), parts_at p a b n m (by omega), hM, Option.bind_some, ew, ec]
    show (if qq p a b x0 x1 m = true then _ else _) = _
    cases hq : qq p a b x0 x1 m with
    | true => rw [hq, if_pos rfl] at ih; rw [if_pos rfl]; exact ih
    | false => rw [hq, if_neg (by decide)] at ih; rw [if_neg (by decide)]; exact ih
theorem same_loop (s : List S80) (hs : s.length < 1000000) : ∀ (d i k : Nat), d = s.length - i → i ≤ s.length → d < k → catchmentref02_Same.l0 k s s (i : Int) = some true
  | d, i, 0, _, _, h => absurd h (by omega)
  | 0, i, k + 1, hd, hi, hk => by rw [catchmentref02_Same.l0, if_neg (by omega)]
  | d + 1, i, k + 1, hd, hi, hk => by
    have e1 : wrap64 ((i : Int) + 1) = ((i + 1 : Nat) : Int) := by rw [wrap64_id (by omega) (by omega)]; omega
    rw [catchmentref02_Same.l0, if_pos (by omega), if_pos (by omega), if_pos (by omega), if_neg (by simp), e1]
    exact same_loop s hs d (i + 1) k (by omega) (by omega) (by omega)
theorem same_f (s : List S80) (hs : s.length < 1000000) (k : Nat) (hk : s.length < k) : catchmentref02_Same.f k s s = some true := by
  unfold catchmentref02_Same.f
  rw [if_pos rfl]
  exact same_loop s hs s.length 0 k (by omega) (by omega) hk
/-- how many parts there are -/
def np (p : List ByteArray) (a b : ByteArray) : Nat := if rt p a.toList b.toList = true then p.length + 1 else 0
theorem np_parts (p : List ByteArray) (a b : ByteArray) : (if rt p a.toList b.toList = true then parts p a b (p.length + 1) else []) = parts p a b (np p a b) := by
  unfold np
  cases rt p a.toList b.toList <;> rfl
theorem np_le (p : List ByteArray) (a b : ByteArray) : np p a b ≤ p.length + 1 := by
  unfold np
  split <;> omega
theorem fin (k : Nat) (hk : 200 ≤ k) (p : List ByteArray) (hp : p.length ≤ 30) (a b x0 x1 u0 u1 v0 v1 : ByteArray) (is : Bool) (h0 : u0.toList = v0.toList) (h1 : u1.toList = v1.toList) :
    catchmentlaw13_PivotSpans.j1 (k + 1) p (parts p a b (np p a b)) (parts p a b (np p a b)) true is is a b x0 x1 u0 u1 v0 v1 = some true := by
  have hnp := np_le p a b
  have hM : pivot_Meets.f k p a b x0 x1 = some (((bwd (qq p a b x0 x1) (np p a b) 0).1 : Int), ((bwd (qq p a b x0 x1) (np p a b) 0).2 : Int)) := by
    unfold pivot_Meets.f
    rw [if_pos (by omega), right_f p (by omega) k (by omega), Option.bind_some]
    show some (pivot_Meets.st x0 x1 (pivot_All.upto (pivot_All.at p a b) (np p a b))) = _
    rw [st_fwd p a b x0 x1 _ (by omega)]
  have hlen := parts_length p a b (np p a b)
  have hR : catchmentref13_Meets.f k p a b x0 x1 = some (((bwd (qq p a b x0 x1) (np p a b) 0).1 : Int), ((bwd (qq p a b x0 x1) (np p a b) 0).2 : Int)) := by
    unfold catchmentref13_Meets.f
    rw [refSpans_f p (by omega) a b k (by omega), Option.bind_some, np_parts, hlen]
    have h := meets_loop p a b x0 x1 (np p a b) (by omega) (np p a b) k (by omega) (by omega)
    rw [Nat.sub_self, bwd] at h
    rw [show wrap64 (((np p a b : Nat) : Int) - 1) = ((np p a b : Nat) : Int) - 1 by unfold wrap64; omega]
    exact h
  rw [catchmentlaw13_PivotSpans.j1, hM, Option.bind_some, hR, Option.bind_some, plive_ge (by omega), Option.bind_some, if_pos rfl, if_pos rfl, same_f _ (by omega) k (by omega), Option.bind_some, if_pos rfl, h0, h1, if_pos (by simp), if_pos (by simp),
    right_f p (by omega) k (by omega), Option.bind_some, refRight_f p (by omega) k (by omega), Option.bind_some, if_pos (by simp), if_pos rfl]
  simp
theorem PivotSpans : catchmentlaw13_PivotSpans.Pure := by
  intro l y z i _ _ _ hi
  refine ⟨300 + 1 + 1, ?_⟩
  unfold catchmentlaw13_PivotSpans.f
  have hm : 0 ≤ mn (l.length : Int) 30 ∧ mn (l.length : Int) 30 ≤ (l.length : Int) ∧ mn (l.length : Int) 30 ≤ 30 := by
    unfold mn
    split <;> omega
  generalize mn (l.length : Int) 30 = m at hm
  rw [if_pos hm.1, if_pos hm.2.1]
  have hl : (l.take m.toNat).length ≤ 30 := by rw [List.length_take]; omega
  generalize l.take m.toNat = p at hl
  obtain ⟨a, b⟩ := y
  obtain ⟨x0, x1⟩ := z
  show ((catchmentref13_Spans.f (300 + 1 + 1) p a b).bind _) = _
  have hlen := parts_length p a b (np p a b)
  have hnp := np_le p a b
  rw [refSpans_f p (by omega) a b _ (by omega), Option.bind_some, spans_f p (by omega) a b _ (by omega), Option.bind_some, np_parts]
  dsimp only
  unfold pivot_Span.f
  by_cases h0 : i < 0
  · rw [if_pos h0, Option.bind_some, if_neg (by omega), catchmentlaw13_PivotSpans.j0, if_neg (by decide)]
    exact fin 300 (by omega) p hl a b x0 x1 _ _ _ _ _ rfl rfl
  · rw [if_neg h0]
    obtain ⟨j, rfl⟩ : ∃ j : Nat, i = (j : Int) := ⟨i.toNat, by omega⟩
    by_cases h1 : (j : Int) > (p.length : Int)
    · rw [if_pos h1, Option.bind_some, if_pos (by omega), decide_eq_false (by omega), catchmentlaw13_PivotSpans.j0, if_neg (by decide)]
      exact fin 300 (by omega) p hl a b x0 x1 _ _ _ _ _ rfl rfl
    · rw [if_neg h1, right_f p (by omega) _ (by omega), Option.bind_some]
      cases hr : rt p a.toList b.toList with
      | false =>
        have e : np p a b = 0 := by unfold np; rw [hr]; rfl
        rw [if_neg (by decide), Option.bind_some, if_pos (by omega), decide_eq_false (by omega), catchmentlaw13_PivotSpans.j0, if_neg (by decide)]
        exact fin 300 (by omega) p hl a b x0 x1 _ _ _ _ _ rfl rfl
      | true =>
        have e : np p a b = p.length + 1 := by unfold np; rw [hr]; rfl
        rw [if_pos rfl, pivot_All.span p a b j (by omega) (by omega), Option.bind_some, Option.bind_some, if_pos (by omega), decide_eq_true (by omega), catchmentlaw13_PivotSpans.j0, if_pos rfl, if_pos (by omega), if_pos (by omega), parts_at p a b _ j (by omega)]
        exact fin 300 (by omega) p hl a b x0 x1 _ _ _ _ _ rfl rfl
end Go.Proofs.Ytgbnhfppnglamaa.Pure
