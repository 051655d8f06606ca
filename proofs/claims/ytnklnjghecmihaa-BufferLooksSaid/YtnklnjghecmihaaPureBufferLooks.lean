/- For all messages, ranges and keys the law BufferLooks answers true: no condition beyond what a Go value of these types can be. -/
import Derived.Test.YtnklnjghecmihaaL1x60
import Derived.Test.YtnklnjghecmihaaL1SBufSpec
set_option linter.unusedVariables false
set_option linter.unusedSimpArgs false
namespace Go.Proofs.Ytnklnjghecmihaa.Pure
open Go.RowKit Go.Proofs.Ytnklnjghecmihaa.L1 Go.Proofs.Ytnklnjghecmihaa.BufSpec Go.Proofs.YtnklnjghecmihaaW.PrintWords Go.Proofs.YtnklnjghecmihaaW.PrintLast Go.Proofs.YtnklnjghecmihaaW.PrintMore Go.Proofs.YtnklnjghecmihaaW.Mine Go.Proofs.YtnklnjghecmihaaW.Ord
theorem blive_90 : catchmentlaw12_live.f 90 = some true := by decide +kernel
theorem blive_ge {k : Nat} (h : 90 ≤ k) : catchmentlaw12_live.f k = some true := by
  obtain ⟨m, rfl⟩ : ∃ m, k = 90 + m := ⟨k - 90, by omega⟩
  induction m with
  | zero => exact blive_90
  | succ m ih => exact catchmentlaw12_live.mono (90 + m) _ (ih (by omega))
/-- which of two messages comes first, as a number -/
def ordv (a b : S46) : Int := if a.f1 < b.f1 then -1 else if a.f1 > b.f1 then 1 else if Op.bytesLess a.f2.toList b.f2.toList = true then -1 else if Op.bytesLess b.f2.toList a.f2.toList = true then 1 else 0
theorem cmpInt_f (a b : Int) : cmp_Compare_int.f a b = some (if a < b then -1 else if a > b then 1 else 0) := by
  unfold cmp_Compare_int.f cmp_isNaN_int.f
  simp only [Option.bind_some, bne_self_eq_false, Bool.false_eq_true, if_false]
  split
  · rfl
  · split <;> rfl
theorem cmpStr_f (a b : ByteArray) : cmp_Compare_string.f a b = some (if Op.bytesLess a.toList b.toList = true then -1 else if Op.bytesLess b.toList a.toList = true then 1 else 0) := by
  unfold cmp_Compare_string.f cmp_isNaN_string.f
  simp only [Option.bind_some, bne_self_eq_false, Bool.false_eq_true, if_false]
  split
  · rfl
  · split <;> rfl
theorem or_f (k : Nat) (x y : Int) : cmp_Or_int.f (k + 3) [x, y] = some (if x = 0 then y else x) := by
  have e1 : wrap64 ((0 : Int) + 1) = 1 := by rw [wrap64_id (by decide) (by decide)]; rfl
  have e2 : wrap64 ((1 : Int) + 1) = 2 := by rw [wrap64_id (by decide) (by decide)]; rfl
  have r0 : rd [x, y] 0 = x := rfl
  have r1 : rd [x, y] 1 = y := rfl
  unfold cmp_Or_int.f
  show cmp_Or_int.l0 (k + 2 + 1) 0 [x, y] 2 0 = _
  rw [cmp_Or_int.l0, if_pos (by decide), if_pos (by decide), if_pos (by simp), r0, e1]
  by_cases h : x = 0
  · rw [if_pos h, if_pos h, cmp_Or_int.l0, if_pos (by decide), if_pos (by decide), if_pos (by simp), r1, e2]
    by_cases h2 : y = 0
    · rw [if_pos h2, cmp_Or_int.l0, if_neg (by decide), h2]
    · rw [if_neg h2]
  · rw [if_neg h, if_neg h]
theorem order_f (k : Nat) (a b : S46) : buffer_order.f (k + 3) a.f0 a.f1 a.f2 a.f3 a.f4 a.f5 b.f0 b.f1 b.f2 b.f3 b.f4 b.f5 = some (ordv a b) := by
  unfold buffer_order.f ordv
  rw [cmpInt_f, Option.bind_some, cmpStr_f, Option.bind_some, or_f, Option.bind_some]
  by_cases h1 : a.f1 < b.f1
  · simp [h1]
  · by_cases h2 : a.f1 > b.f1
    · simp [h1, h2]
    · simp [h1, h2]
theorem ordv_lt (a b : S46) : ordv a b < 0 ↔ ahe a b = true := by
  unfold ordv ahe
  by_cases h1 : a.f1 < b.f1
  · simp [h1]
  · by_cases h2 : a.f1 > b.f1
    · have h3 : ¬ a.f1 = b.f1 := by omega
      simp [h1, h2, h3]
    · have h3 : a.f1 = b.f1 := by omega
      by_cases h4 : Op.bytesLess a.f2.toList b.f2.toList = true
      · simp [h3, h4]
      · by_cases h5 : Op.bytesLess b.f2.toList a.f2.toList = true
        · simp [h3, h4, h5]
        · simp [h3, h4, h5]
theorem ordv_gt (a b : S46) (h : ahe a b = true) : ordv b a > 0 := by
  unfold ahe at h
  unfold ordv
  by_cases h1 : a.f1 < b.f1
  · rw [if_neg (by omega), if_pos (by omega)]; decide
  · rw [decide_eq_false h1, Bool.false_or, Bool.and_eq_true, decide_eq_true_iff] at h
    have h2 : ¬ Op.bytesLess b.f2.toList a.f2.toList = true := fun h3 => L_asymm h.2 h3
    rw [if_neg (by omega), if_neg (by omega), if_neg h2, if_pos h.2]; decide
theorem apart_f (a b : S46) (h : fits a) : buffer_apart.f a.f0 a.f1 a.f2 a.f3 a.f4 a.f5 b.f0 b.f1 b.f2 b.f3 b.f4 b.f5 = some (!(ahd b.f2.toList (sp a).2.toList)) := by
  unfold buffer_apart.f ahd
  rw [span_f a h, Option.bind_some]
  cases he : (sp a).2.toList <;> simp
theorem own_parts {m : S46} (h : own m = true) : kd m = true ∧ (sp m).1 = m.f2 ∧ ahd m.f2.toList (sp m).2.toList = true := by
  unfold own at h
  rw [Bool.and_eq_true] at h
  have h1 := sp_from h.1
  exact ⟨h.1, h1, by rw [← h1]; exact h.2⟩
theorem meet_apart (a b : S46) (ha : own a = true) (hb : own b = true) (hl : Op.bytesLess a.f2.toList b.f2.toList = true) : (meet (sp a).1 (sp a).2 (sp b).1 (sp b).2).2.2 = ahd b.f2.toList (sp a).2.toList := by
  obtain ⟨_, ea, ra⟩ := own_parts ha
  obtain ⟨_, eb, rb⟩ := own_parts hb
  rw [ea, eb]
  unfold meet
  have es : smx a.f2 b.f2 = b.f2 := by unfold smx; rw [if_pos hl]
  rw [es]
  by_cases hf : bef (sp b).2.toList (sp a).2.toList = true
  · rw [if_pos hf, if_pos ⟨ra, rb, rb⟩]
    refine Eq.symm (ahd_iff.2 ?_)
    obtain ⟨h1, h2⟩ := bef_iff.1 hf
    rcases h2 with h2 | h2
    · exact .inl h2
    · rcases ahd_iff.1 rb with h3 | h3
      · exact absurd h3 h1
      · exact .inr (L_trans h3 h2)
  · rw [if_neg hf]
    by_cases h4 : ahd b.f2.toList (sp a).2.toList = true
    · rw [if_pos ⟨ra, rb, h4⟩, h4]
    · rw [if_neg (fun h => h4 h.2.2)]
      exact (by simpa using h4 : ahd b.f2.toList (sp a).2.toList = false).symm
/-- messages that may stand by themselves, up to a place -/
def bad (l : List S46) (i : Nat) : Bool := !(i == 0 || nxt (M l (i - 1)) (M l i))
theorem bj2 (l : List S46) (k i : Nat) (hi : i < l.length) (hl : l.length < 1000000) (b : Bool) : buffer_Right.j2 (k + 1) l l (l.length : Int) (i : Int) b = if b = true then some false else buffer_Right.l0 k l l (l.length : Int) ((i + 1 : Nat) : Int) := by
  rw [buffer_Right.j2, succ_nat i (by omega)]
theorem bj1 (l : List S46) (hl : l.length < 1000000) (hf : Fits l) (k i : Nat) (hi : i < l.length) (ho : own (M l i) = true) (hp : 0 < i → own (M l (i - 1)) = true) :
    buffer_Right.j1 (k + 4) l (i : Int) l (l.length : Int) (i : Int) false (M l i).f0 (M l i).f1 (M l i).f2 (M l i).f3 (M l i).f4 (M l i).f5 = if bad l i = true then some false else buffer_Right.l0 (k + 2) l l (l.length : Int) ((i + 1 : Nat) : Int) := by
  rw [buffer_Right.j1, if_neg (by decide)]
  by_cases h0 : 0 < i
  · have hz : (i == 0) = false := by rw [beq_eq_false_iff_ne]; omega
    rw [if_pos (by omega), pred_nat i h0 (by omega), if_pos (by omega), if_pos (by omega)]
    simp only [rd_nat]
    rw [order_f k, Option.bind_some, apart_f _ _ (hf (i - 1) (by omega))]
    simp only [Option.bind_some, bj2 l (k + 2) i hi hl]
    unfold bad
    rw [hz, Bool.false_or]
    unfold nxt
    by_cases ha : ahe (M l (i - 1)) (M l i) = true
    · have h1 := (ordv_lt (M l (i - 1)) (M l i)).2 ha
      rw [if_neg (by omega), ha]
      by_cases he : (M l (i - 1)).f1 = (M l i).f1
      · have hlt : Op.bytesLess (M l (i - 1)).f2.toList (M l i).f2.toList = true := by
          unfold ahe at ha
          rw [decide_eq_false (show ¬ (M l (i - 1)).f1 < (M l i).f1 by omega), Bool.false_or, Bool.and_eq_true] at ha
          exact ha.2
        rw [if_pos he, decide_eq_true he, meet_apart _ _ (hp h0) ho hlt]
        cases ahd (M l i).f2.toList (sp (M l (i - 1))).2.toList <;> rfl
      · rw [if_neg he, decide_eq_false he]
        rfl
    · have h1 : ¬ ordv (M l (i - 1)) (M l i) < 0 := fun h => ha ((ordv_lt _ _).1 h)
      rw [if_pos (by omega), (by simpa using ha : ahe (M l (i - 1)) (M l i) = false)]
      rfl
  · have hz : i = 0 := by omega
    subst hz
    rw [if_neg (by omega), bj2 l (k + 2) 0 hi hl]
    rfl
theorem rightLoop (l : List S46) (hl : l.length < 1000000) (hf : Fits l) : ∀ (d i k : Nat), d = l.length - i → i ≤ l.length → (0 < i → own (M l (i - 1)) = true) → 3 * d + 5 < k → buffer_Right.l0 k l l (l.length : Int) (i : Int) = some (rl l d i)
  | d, i, 0, _, _, _, h => absurd h (by omega)
  | 0, i, k + 1, hd, hi, hp, hk => by
    rw [buffer_Right.l0, if_neg (by omega), rl]
  | d + 1, i, k + 1, hd, hi, hp, hk => by
    obtain ⟨n, rfl⟩ : ∃ n, k = n + 4 := ⟨k - 4, by omega⟩
    have hj : ∀ b, b = !(own (M l i)) → buffer_Right.j1 (n + 4) l (i : Int) l (l.length : Int) (i : Int) b (M l i).f0 (M l i).f1 (M l i).f2 (M l i).f3 (M l i).f4 (M l i).f5 = some (rl l (d + 1) i) := by
      intro b hb
      subst hb
      cases ho : own (M l i) with
      | false => rw [buffer_Right.j1, if_pos (by rfl)]; simp [rl, ok, ho]
      | true =>
        show buffer_Right.j1 (n + 4) l (i : Int) l (l.length : Int) (i : Int) false (M l i).f0 (M l i).f1 (M l i).f2 (M l i).f3 (M l i).f4 (M l i).f5 = _
        rw [bj1 l hl hf n i (by omega) ho hp, rightLoop l hl hf d (i + 1) (n + 2) (by omega) (by omega) (fun _ => by rw [Nat.add_sub_cancel]; exact ho) (by omega)]
        have hq : (i == 0 || nxt (M l (i - 1)) (M l i)) = !(bad l i) := by unfold bad; rw [Bool.not_not]
        rw [rl, ok, ho, Bool.true_and, hq]
        cases bad l i <;> rfl
    rw [buffer_Right.l0, if_pos (by omega), if_pos (by omega), if_pos (by omega)]
    simp only [rd_nat]
    rw [isPoint_f, Option.bind_some]
    by_cases h1 : pnt (M l i) = true
    · rw [if_pos h1]
      exact hj false (by rw [pnt_own h1]; rfl)
    · rw [if_neg h1]
      have h1f : pnt (M l i) = false := by simpa using h1
      by_cases h4 : (M l i).f0 = 4
      · have hk4 : kd (M l i) = true := by unfold kd; rw [h4]; rfl
        have h5 : (if (M l i).f0 = 4 then (msg_Span.f (M l i).f0 (M l i).f1 (M l i).f2 (M l i).f3 (M l i).f4 (M l i).f5).bind fun bt => (key_RightRange.f bt.1 bt.2).bind fun t => buffer_Right.j1 (n + 4) l (i : Int) l (l.length : Int) (i : Int) (!t) (M l i).f0 (M l i).f1 (M l i).f2 (M l i).f3 (M l i).f4 (M l i).f5 else buffer_Right.j1 (n + 4) l (i : Int) l (l.length : Int) (i : Int) true (M l i).f0 (M l i).f1 (M l i).f2 (M l i).f3 (M l i).f4 (M l i).f5) = some (rl l (d + 1) i) := by
          rw [if_pos h4, span_f _ (hf i (by omega)), Option.bind_some, rightRange_f, Option.bind_some]
          exact hj _ (by unfold own; rw [hk4, Bool.true_and])
        exact h5
      · have h5 : (if (M l i).f0 = 4 then (msg_Span.f (M l i).f0 (M l i).f1 (M l i).f2 (M l i).f3 (M l i).f4 (M l i).f5).bind fun bt => (key_RightRange.f bt.1 bt.2).bind fun t => buffer_Right.j1 (n + 4) l (i : Int) l (l.length : Int) (i : Int) (!t) (M l i).f0 (M l i).f1 (M l i).f2 (M l i).f3 (M l i).f4 (M l i).f5 else buffer_Right.j1 (n + 4) l (i : Int) l (l.length : Int) (i : Int) true (M l i).f0 (M l i).f1 (M l i).f2 (M l i).f3 (M l i).f4 (M l i).f5) = some (rl l (d + 1) i) := by
          rw [if_neg h4]
          refine hj true ?_
          have hk : kd (M l i) = false := by
            cases hk : kd (M l i) with
            | false => rfl
            | true => rcases kd_cases hk with h | h
                      · exact absurd h h1
                      · exact absurd h.2 h4
          unfold own
          rw [hk]
          rfl
        exact h5
theorem right_f (l : List S46) (hl : l.length < 1000000) (hf : Fits l) (k : Nat) (hk : 3 * l.length + 5 < k) : buffer_Right.f k l = some (rt l) := rightLoop l hl hf l.length 0 k (by omega) (by omega) (fun h => absurd h (by omega)) hk
theorem bytes_loop (l : List S46) (hl : l.length < 1000000) : ∀ (d i k : Nat) (a : Int), d = l.length - i → i ≤ l.length → d < k → ∃ v, buffer_Bytes.l0 k a l (l.length : Int) (i : Int) = some v ∧ catchmentref12_Bytes.l0 k l a (i : Int) = some v
  | d, i, 0, _, _, _, h => absurd h (by omega)
  | 0, i, k + 1, a, hd, hi, hk => ⟨a, by rw [buffer_Bytes.l0, if_neg (by omega)], by rw [catchmentref12_Bytes.l0, if_neg (by omega)]⟩
  | d + 1, i, k + 1, a, hd, hi, hk => by
    have e1 := succ_nat i (by omega)
    rw [buffer_Bytes.l0, if_pos (by omega), if_pos (by omega), if_pos (by omega), catchmentref12_Bytes.l0, if_pos (by omega), if_pos (by omega), e1]
    exact bytes_loop l hl d (i + 1) k _ (by omega) (by omega) (by omega)
/-- does a message touch a key -/
def tch (m : S46) (s : ByteArray) : Bool := if pnt m = true then m.f2.toList == s.toList else decide (m.f0 = 4) && (!(Op.bytesLess s.toList m.f2.toList) && ahd s.toList m.f3.toList)
theorem refTouches_f (m : S46) (s : ByteArray) : catchmentref04_Touches.f m.f0 m.f1 m.f2 m.f3 m.f4 m.f5 s = some (tch m s) := by
  unfold catchmentref04_Touches.f tch ahd
  rw [refPoint_f, Option.bind_some]
  by_cases h : pnt m = true
  · rw [if_pos h, if_pos h]
  · rw [if_neg h, if_neg h]
    by_cases h4 : m.f0 = 4
    · rw [if_pos h4, decide_eq_true h4]
      by_cases h5 : Op.bytesLess s.toList m.f2.toList = true
      · rw [if_pos h5, h5]; rfl
      · rw [if_neg h5, (by simpa using h5 : Op.bytesLess s.toList m.f2.toList = false)]
        cases m.f3.toList <;> simp
    · rw [if_neg h4, decide_eq_false h4]; rfl
theorem touches_f (m : S46) (h : fits m) (s : ByteArray) : msg_Touches.f m.f0 m.f1 m.f2 m.f3 m.f4 m.f5 s = some (tch m s) := by
  unfold msg_Touches.f tch
  rw [isPoint_f, Option.bind_some, span_f m h]
  by_cases hp : pnt m = true
  · have h4 : ¬ m.f0 = 4 := by
      unfold pnt at hp
      rw [Bool.and_eq_true, decide_eq_true_iff, decide_eq_true_iff] at hp
      omega
    rw [if_pos hp, if_pos hp, if_neg h4]
    by_cases he : m.f2.toList = s.toList
    · rw [if_pos he, beq_iff_eq.mpr he]
    · rw [if_neg he, beq_eq_false_iff_ne.mpr he]
  · rw [if_neg hp, if_neg hp]
    by_cases h4 : m.f0 = 4
    · have e : sp m = (m.f2, m.f3) := by unfold sp; rw [if_neg hp, if_pos h4]
      rw [if_pos h4, decide_eq_true h4, e]
      simp only [Option.bind_some, key_Holds.f, ahead_f]
      by_cases h5 : Op.bytesLess s.toList m.f2.toList = true
      · simp [h5]
      · simp [h5]
    · rw [if_neg h4, decide_eq_false h4]; rfl
theorem at_loop (l : List S46) (hl : l.length < 1000000) (hf : Fits l) (s : ByteArray) : ∀ (d i k : Nat) (a : List S46), d = l.length - i → i ≤ l.length → a.length + d < 1000000 → d < k → ∃ v, buffer_At.l0 k s a l (l.length : Int) (i : Int) = some v ∧ catchmentref12_At.l0 k l s a (i : Int) = some v ∧ v.length ≤ a.length + d
  | d, i, 0, _, _, _, _, h => absurd h (by omega)
  | 0, i, k + 1, a, hd, hi, ha, hk => ⟨a, by rw [buffer_At.l0, if_neg (by omega)], by rw [catchmentref12_At.l0, if_neg (by omega)], by omega⟩
  | d + 1, i, k + 1, a, hd, hi, ha, hk => by
    have e1 := succ_nat i (by omega)
    have h1 : buffer_At.l0 (k + 1) s a l (l.length : Int) (i : Int) = if tch (M l i) s = true then buffer_At.l0 k s (a ++ [M l i]) l (l.length : Int) ((i + 1 : Nat) : Int) else buffer_At.l0 k s a l (l.length : Int) ((i + 1 : Nat) : Int) := by
      rw [buffer_At.l0, if_pos (by omega), if_pos (by omega), if_pos (by omega), e1]
      simp only [rd_nat]
      rw [touches_f _ (hf i (by omega)), Option.bind_some, if_pos (show a.length < 1954687338268 by omega)]
    have h2 : catchmentref12_At.l0 (k + 1) l s a (i : Int) = if tch (M l i) s = true then catchmentref12_At.l0 k l s (a ++ [M l i]) ((i + 1 : Nat) : Int) else catchmentref12_At.l0 k l s a ((i + 1 : Nat) : Int) := by
      rw [catchmentref12_At.l0, if_pos (by omega), if_pos (by omega), e1]
      simp only [rd_nat]
      rw [refTouches_f, Option.bind_some, if_pos (show a.length < 1954687338268 by omega)]
    rw [h1, h2]
    by_cases ht : tch (M l i) s = true
    · rw [if_pos ht, if_pos ht]
      obtain ⟨v, v1, v2, v3⟩ := at_loop l hl hf s d (i + 1) k (a ++ [M l i]) (by omega) (by omega) (by simp only [List.length_append, List.length_singleton]; omega) (by omega)
      exact ⟨v, v1, v2, by simp only [List.length_append, List.length_singleton] at v3; omega⟩
    · rw [if_neg ht, if_neg ht]
      obtain ⟨v, v1, v2, v3⟩ := at_loop l hl hf s d (i + 1) k a (by omega) (by omega) (by omega) (by omega)
      exact ⟨v, v1, v2, by omega⟩
theorem same_loop (l : List S46) (hl : l.length < 1000000) : ∀ (d i k : Nat), d = l.length - i → i ≤ l.length → d < k → catchmentref04_Same.l0 k l l (i : Int) = some true
  | d, i, 0, _, _, h => absurd h (by omega)
  | 0, i, k + 1, hd, hi, hk => by rw [catchmentref04_Same.l0, if_neg (by omega)]
  | d + 1, i, k + 1, hd, hi, hk => by
    rw [catchmentref04_Same.l0, if_pos (by omega), if_pos (by omega), if_pos (by omega), if_neg (by simp), succ_nat i (by omega)]
    exact same_loop l hl d (i + 1) k (by omega) (by omega) (by omega)
theorem same_f (l : List S46) (hl : l.length < 1000000) (k : Nat) (hk : l.length < k) : catchmentref04_Same.f k l l = some true := by
  unfold catchmentref04_Same.f
  rw [if_pos rfl]
  exact same_loop l hl l.length 0 k (by omega) (by omega) hk
theorem refBefore_f (a b : ByteArray) : catchmentref02_Before.f a b = some (bef a.toList b.toList) := by
  unfold catchmentref02_Before.f bef
  cases h : a.toList <;> cases h2 : b.toList <;> simp
theorem bef_irrefl (a : List UInt8) : bef a a = false := by
  unfold bef
  cases a with
  | nil => rfl
  | cons x a =>
    have : Op.bytesLess (x :: a) (x :: a) = false := by simpa [L] using L_irrefl (x :: a)
    simp [this]
theorem refWithin_f (k : Nat) (a0 a1 b0 b1 : ByteArray) : key_Within.f (k + 1) a0 a1 b0 b1 = catchmentref02_Within.f a0 a1 b0 b1 := by
  rw [within_f]
  unfold catchmentref02_Within.f
  rw [refRight_f, refRight_f]
  simp only [Option.bind_some, refBefore_f]
  unfold meet
  by_cases ha : ahd a0.toList a1.toList = true
  · rw [if_pos ha]
    by_cases hb : ahd b0.toList b1.toList = true
    · rw [if_pos hb]
      by_cases hl : Op.bytesLess a0.toList b0.toList = true
      · rw [if_pos hl]
        have e : (smx a0 b0) = b0 := by unfold smx; rw [if_pos hl]
        have ne : (b0.toList == a0.toList) = false := by
          rw [beq_eq_false_iff_ne]
          intro h
          rw [h] at hl
          exact L_irrefl _ hl
        rw [e]
        generalize (if bef b1.toList a1.toList = true then b1 else a1) = t
        by_cases hc : ahd a0.toList a1.toList = true ∧ ahd b0.toList b1.toList = true ∧ ahd b0.toList t.toList = true
        · rw [if_pos hc]
          show some (true && (b0.toList == a0.toList && t.toList == a1.toList)) = some false
          rw [ne]
          rfl
        · rw [if_neg hc]
          rfl
      · rw [if_neg hl]
        have e : (smx a0 b0) = a0 := by unfold smx; rw [if_neg hl]
        rw [e]
        cases hf : bef b1.toList a1.toList
        · simp only [Bool.false_eq_true, if_false, ha, hb, and_self, if_true]
          simp
        · have ne : (b1.toList == a1.toList) = false := by
            rw [beq_eq_false_iff_ne]
            intro h
            rw [h, bef_irrefl] at hf
            cases hf
          simp only [if_true]
          by_cases hc : ahd a0.toList a1.toList = true ∧ ahd b0.toList b1.toList = true ∧ ahd a0.toList b1.toList = true
          · rw [if_pos hc]
            show some (true && (a0.toList == a0.toList && b1.toList == a1.toList)) = some (!true)
            rw [ne]
            simp
          · rw [if_neg hc]
            rfl
    · rw [if_neg hb, if_neg (fun h => hb h.2.1)]
      rfl
  · rw [if_neg ha, if_neg (fun h => ha h.1)]
    rfl
/-- does a message lie in a range -/
def wi (r0 r1 : ByteArray) (m : S46) : Bool := (meet (sp m).1 (sp m).2 r0 r1).2.2 && ((meet (sp m).1 (sp m).2 r0 r1).1.toList == (sp m).1.toList && (meet (sp m).1 (sp m).2 r0 r1).2.1.toList == (sp m).2.toList)
def wl (r0 r1 : ByteArray) (l : List S46) : Nat → Nat → Bool
  | 0, _ => true
  | d + 1, i => wi r0 r1 (M l i) && wl r0 r1 l d (i + 1)
theorem refWithin_loop (l : List S46) (hl : l.length < 1000000) (hf : Fits l) (r0 r1 : ByteArray) : ∀ (d i k : Nat), d = l.length - i → i ≤ l.length → d < k → catchmentref12_Within.l0 k l (i : Int) r0 r1 = some (wl r0 r1 l d i)
  | d, i, 0, _, _, h => absurd h (by omega)
  | 0, i, k + 1, hd, hi, hk => by rw [catchmentref12_Within.l0, if_neg (by omega), wl]
  | d + 1, i, k + 1, hd, hi, hk => by
    rw [catchmentref12_Within.l0, if_pos (by omega), if_pos (by omega), succ_nat i (by omega)]
    simp only [rd_nat]
    rw [refSpan_f _ (hf i (by omega)), Option.bind_some, ← refWithin_f 0, within_f, Option.bind_some, refWithin_loop l hl hf r0 r1 d (i + 1) k (by omega) (by omega) (by omega), wl]
    show (if wi r0 r1 (M l i) = true then _ else _) = _
    cases wi r0 r1 (M l i) <;> rfl
theorem ix_loop (l : List S46) (hf : Fits l) (r0 r1 : ByteArray) (k : Nat) : ∀ (d i : Nat), d = l.length - i → i ≤ l.length → ∃ v : Int, buffer_Within.ix (k + 1) r0 r1 (l.drop i) i = some v ∧ (!(decide (0 ≤ v))) = wl r0 r1 l d i
  | 0, i, hd, hi => by
    refine ⟨-1, ?_, rfl⟩
    rw [List.drop_eq_nil_of_le (by omega), buffer_Within.ix]
  | d + 1, i, hd, hi => by
    obtain ⟨v, v1, v2⟩ := ix_loop l hf r0 r1 k d (i + 1) (by omega) (by omega)
    have hm : l[i]'(by omega) = M l i := by
      show _ = l.getD ((i : Int)).toNat z46
      rw [Int.toNat_natCast, List.getD_eq_getElem?_getD, List.getElem?_eq_getElem (by omega)]; rfl
    rw [List.drop_eq_getElem_cons (by omega), buffer_Within.ix, hm, buffer_Within.inn, span_f _ (hf i (by omega)), Option.bind_some, within_f, Option.bind_some, v1, wl]
    show ∃ v_, (if wi r0 r1 (M l i) = true then some v else some (i : Int)) = some v_ ∧ _
    cases wi r0 r1 (M l i) with
    | true => exact ⟨v, by rw [if_pos rfl], by rw [v2]; rfl⟩
    | false => exact ⟨i, by rw [if_neg (by decide)], by rw [decide_eq_true (show (0 : Int) ≤ (i : Int) by omega)]; rfl⟩
theorem within_same (l : List S46) (hl : l.length < 1000000) (hf : Fits l) (r0 r1 : ByteArray) (k : Nat) (hk : l.length < k) : ∃ v, buffer_Within.f k l r0 r1 = some v ∧ catchmentref12_Within.f k l r0 r1 = some v := by
  obtain ⟨n, rfl⟩ : ∃ n, k = n + 1 := ⟨k - 1, by omega⟩
  obtain ⟨v, v1, v2⟩ := ix_loop l hf r0 r1 n l.length 0 (by omega) (by omega)
  refine ⟨wl r0 r1 l l.length 0, ?_, refWithin_loop l hl hf r0 r1 l.length 0 (n + 1) (by omega) (by omega) hk⟩
  rw [List.drop_zero] at v1
  unfold buffer_Within.f
  rw [v1, Option.bind_some, v2]
theorem max_loop (l : List S46) (hl : l.length < 1000000) (hr : rt l = true) : ∀ (d i k : Nat), d = l.length - i → 1 ≤ i → i ≤ l.length → d + 3 < k → api_Msg_114.l0 k l (i : Int) (M l (i - 1)).f0 (M l (i - 1)).f1 (M l (i - 1)).f2 (M l (i - 1)).f3 (M l (i - 1)).f4 (M l (i - 1)).f5 = some ((M l (l.length - 1)).f0, (M l (l.length - 1)).f1, (M l (l.length - 1)).f2, (M l (l.length - 1)).f3, (M l (l.length - 1)).f4, (M l (l.length - 1)).f5)
  | d, i, 0, _, _, _, h => absurd h (by omega)
  | 0, i, k + 1, hd, h1, hi, hk => by
    have e : i = l.length := by omega
    subst e
    rw [api_Msg_114.l0, if_neg (by omega)]
  | d + 1, i, k + 1, hd, h1, hi, hk => by
    obtain ⟨n, rfl⟩ : ∃ n, k = n + 3 := ⟨k - 3, by omega⟩
    have hn := rt_nxt l hr i (by omega) (by omega)
    unfold nxt at hn
    rw [Bool.and_eq_true] at hn
    have hg := ordv_gt _ _ hn.1
    have ih := max_loop l hl hr d (i + 1) (n + 3) (by omega) (by omega) (by omega) (by omega)
    rw [Nat.add_sub_cancel] at ih
    rw [api_Msg_114.l0, if_pos (by omega), if_pos (by omega), succ_nat i (by omega)]
    simp only [rd_nat]
    rw [order_f n (M l i) (M l (i - 1)), Option.bind_some, if_pos hg]
    exact ih
/-- the number of the last message -/
def lastN (l : List S46) : Int := if l.length = 0 then 0 else (M l (l.length - 1)).f1
theorem newest_f (l : List S46) (hl : l.length < 1000000) (hr : rt l = true) (k : Nat) (hk : l.length + 3 < k) : buffer_Newest.f k l = some (lastN l) := by
  unfold buffer_Newest.f lastN
  by_cases h : l.length = 0
  · rw [if_pos (by omega), if_pos h]
  · rw [if_neg (by omega), if_neg h]
    unfold api_Msg_114.f
    rw [if_neg (by omega), if_pos (by omega)]
    have := max_loop l hl hr (l.length - 1) 1 k rfl (by omega) (by omega) (by omega)
    show ((api_Msg_114.l0 k l ((1 : Nat) : Int) (M l (1 - 1)).f0 (M l (1 - 1)).f1 (M l (1 - 1)).f2 (M l (1 - 1)).f3 (M l (1 - 1)).f4 (M l (1 - 1)).f5).bind _) = _
    rw [this]
    rfl
theorem law_loop (l : List S46) (hl : l.length ≤ 30) (hf : Fits l) (hr : rt l = true) (s r0 r1 : ByteArray) : ∀ (d i k : Nat), d = l.length - i → i ≤ l.length → 150 + d < k → catchmentlaw12_BufferLooks.l0 k l s (if i = 0 then 0 else (M l (i - 1)).f1) (i : Int) r0 r1 = some true
  | d, i, 0, _, _, h => absurd h (by omega)
  | 0, i, k + 1, hd, hi, hk => by
    have e : i = l.length := by omega
    subst e
    obtain ⟨b, b1, b2⟩ := bytes_loop l (by omega) l.length 0 k 0 (by omega) (by omega) (by omega)
    obtain ⟨v, v1, v2, v3⟩ := at_loop l (by omega) hf s l.length 0 k [] (by omega) (by omega) (by simp; omega) (by omega)
    obtain ⟨u, u1, u2⟩ := within_same l (by omega) hf r0 r1 k (by omega)
    have v4 : v.length ≤ 30 := by simp only [List.length_nil] at v3; omega
    rw [catchmentlaw12_BufferLooks.l0, if_neg (by omega), blive_ge (by omega), Option.bind_some, if_pos rfl]
    show ((buffer_Bytes.l0 k 0 l (l.length : Int) ((0 : Nat) : Int)).bind fun t => (catchmentref12_Bytes.l0 k l 0 ((0 : Nat) : Int)).bind fun t2 => _) = _
    rw [b1, Option.bind_some, b2, Option.bind_some, if_pos rfl]
    show ((buffer_At.l0 k s [] l (l.length : Int) ((0 : Nat) : Int)).bind fun t => (catchmentref12_At.l0 k l s [] ((0 : Nat) : Int)).bind fun t2 => _) = _
    rw [v1, Option.bind_some, v2, Option.bind_some, same_f v (by omega) k (by omega), Option.bind_some, if_pos rfl, u1, Option.bind_some, u2, Option.bind_some, if_pos (by simp), newest_f l (by omega) hr k (by omega), Option.bind_some]
    show some (lastN l == lastN l) = _
    rw [beq_self_eq_true]
  | d + 1, i, k + 1, hd, hi, hk => by
    have ih := law_loop l hl hf hr s r0 r1 d (i + 1) k (by omega) (by omega) (by omega)
    rw [if_neg (by omega), Nat.add_sub_cancel] at ih
    rw [catchmentlaw12_BufferLooks.l0, if_pos (by omega), if_pos (by omega), succ_nat i (by omega)]
    exact ih
theorem BufferLooks : catchmentlaw12_BufferLooks.Pure := by
  intro l y s hl0 _ _
  refine ⟨300, ?_⟩
  unfold catchmentlaw12_BufferLooks.f
  have hm : 0 ≤ mn (l.length : Int) 30 ∧ mn (l.length : Int) 30 ≤ (l.length : Int) ∧ mn (l.length : Int) 30 ≤ 30 := by
    unfold mn
    split <;> omega
  generalize mn (l.length : Int) 30 = m at hm
  rw [if_pos hm.1, if_pos hm.2.1]
  have hl : (l.take m.toNat).length ≤ 30 := by rw [List.length_take]; omega
  have hf : Fits (l.take m.toNat) := by
    intro i hi
    have hmem : M (l.take m.toNat) i ∈ l := by
      have e : M (l.take m.toNat) i = (l.take m.toNat)[i]'hi := by
        show (l.take m.toNat).getD ((i : Int)).toNat z46 = _
        rw [Int.toNat_natCast, List.getD_eq_getElem?_getD, List.getElem?_eq_getElem hi]; rfl
      rw [e]
      exact List.mem_of_mem_take (List.getElem_mem hi)
    have := (hl0.2.2 _ hmem).2.2.1
    unfold fits
    dsimp only at this
    omega
  generalize l.take m.toNat = p at hl hf
  rw [Option.bind_some, right_f p (by omega) hf _ (by omega), Option.bind_some, refBuf_f p (by omega) hf _ (by omega), Option.bind_some, if_neg (by simp), Option.bind_some]
  cases hr : rt p with
  | false => rw [if_neg (by decide), blive_ge (by omega)]; rfl
  | true =>
    rw [if_pos rfl]
    exact law_loop p hl hf hr s y.f0 y.f1 p.length 0 300 (by omega) (by omega) (by omega)
end Go.Proofs.Ytnklnjghecmihaa.Pure
