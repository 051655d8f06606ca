/- For all messages and keys the law BufferSpans answers true: no condition beyond what a Go value of these types can be. -/
import Derived.Test.YtnklnjghecmihaaL1x64
import Derived.Test.YtnklnjghecmihaaL1SBufSpec
set_option linter.unusedVariables false
set_option linter.unusedSimpArgs false
namespace Go.Proofs.Ytnklnjghecmihaa.Pure
open Go.RowKit Go.Proofs.Ytnklnjghecmihaa.L1 Go.Proofs.Ytnklnjghecmihaa.BufSpec Go.Proofs.YtnklnjghecmihaaW.PrintWords Go.Proofs.YtnklnjghecmihaaW.PrintLast Go.Proofs.YtnklnjghecmihaaW.PrintMore Go.Proofs.YtnklnjghecmihaaW.Mine Go.Proofs.YtnklnjghecmihaaW.Ord
theorem slive_90 : catchmentlaw12_live.f 90 = some true := by decide +kernel
theorem slive_ge {k : Nat} (h : 90 ≤ k) : catchmentlaw12_live.f k = some true := by
  obtain ⟨m, rfl⟩ : ∃ m, k = 90 + m := ⟨k - 90, by omega⟩
  induction m with
  | zero => exact slive_90
  | succ m ih => exact catchmentlaw12_live.mono (90 + m) _ (ih (by omega))
theorem last_f (a b : ByteArray) : key_Last.f a b = some (if bef a.toList b.toList = true then b else a) := by
  simp only [key_Last.f, before_f, Option.bind_some]
  split <;> rfl
theorem bef_irrefl (a : List UInt8) : bef a a = false := by
  unfold bef
  cases a with
  | nil => rfl
  | cons x a =>
    have : Op.bytesLess (x :: a) (x :: a) = false := by simpa [L] using L_irrefl (x :: a)
    simp [this]
theorem bef_trans {a b c : List UInt8} (h1 : bef a b = true) (h2 : bef b c = true) : bef a c = true := by
  obtain ⟨p1, p2⟩ := bef_iff.1 h1
  obtain ⟨q1, q2⟩ := bef_iff.1 h2
  refine bef_iff.2 ⟨p1, ?_⟩
  rcases q2 with q2 | q2
  · exact .inl q2
  · rcases p2 with p2 | p2
    · exact absurd p2 q1
    · exact .inr (L_trans p2 q2)
def F (l : List S46) (j : Nat) : List UInt8 := (sp (M l j)).1.toList
def E (l : List S46) (j : Nat) : List UInt8 := (sp (M l j)).2.toList
/-- the least range of the first messages -/
structure Inv (l : List S46) (i : Nat) (a b : ByteArray) : Prop where
  low : ∀ j, j < i → ¬ L (F l j) a.toList
  high : ∀ j, j < i → bef b.toList (E l j) = false
  hasF : ∃ j, j < i ∧ F l j = a.toList
  hasE : ∃ j, j < i ∧ E l j = b.toList
theorem smn_cases (a b : ByteArray) : (smn a b = a ∧ ¬ L b.toList a.toList) ∨ (smn a b = b ∧ L b.toList a.toList) := by
  unfold smn
  by_cases h : Op.bytesLess a.toList b.toList = true
  · left
    rw [h]
    exact ⟨rfl, L_asymm h⟩
  · by_cases h2 : a.toList = b.toList
    · left
      rw [beq_iff_eq.mpr h2, Bool.or_true]
      exact ⟨rfl, by rw [h2]; exact L_irrefl _⟩
    · right
      rw [(by simpa using h : Op.bytesLess a.toList b.toList = false), beq_eq_false_iff_ne.mpr h2]
      exact ⟨rfl, L_of_ne h h2⟩
theorem inv_next {l : List S46} {i : Nat} {a b : ByteArray} (h : Inv l i a b) : Inv l (i + 1) (smn a (sp (M l i)).1) (if bef b.toList (sp (M l i)).2.toList = true then (sp (M l i)).2 else b) := by
  have hF : F l i = (sp (M l i)).1.toList := rfl
  have hE : E l i = (sp (M l i)).2.toList := rfl
  refine ⟨?_, ?_, ?_, ?_⟩
  · intro j hj
    rcases smn_cases a (sp (M l i)).1 with ⟨e, q⟩ | ⟨e, q⟩
    · rw [e]
      by_cases hji : j = i
      · rw [hji, hF]; exact q
      · exact h.low j (by omega)
    · rw [e]
      by_cases hji : j = i
      · rw [hji, hF]; exact L_irrefl _
      · exact fun h3 => h.low j (by omega) (L_trans h3 q)
  · intro j hj
    by_cases hb : bef b.toList (sp (M l i)).2.toList = true
    · rw [if_pos hb]
      by_cases hji : j = i
      · rw [hji, hE]; exact bef_irrefl _
      · cases hc : bef (sp (M l i)).2.toList (E l j) with
        | false => rfl
        | true =>
          have := bef_trans hb hc
          rw [h.high j (by omega)] at this
          cases this
    · rw [if_neg hb]
      by_cases hji : j = i
      · rw [hji, hE]; simpa using hb
      · exact h.high j (by omega)
  · rcases smn_cases a (sp (M l i)).1 with ⟨e, q⟩ | ⟨e, q⟩
    · obtain ⟨j, h1, h2⟩ := h.hasF
      exact ⟨j, by omega, by rw [e]; exact h2⟩
    · exact ⟨i, by omega, by rw [e, hF]⟩
  · by_cases hb : bef b.toList (sp (M l i)).2.toList = true
    · exact ⟨i, by omega, by rw [if_pos hb, hE]⟩
    · obtain ⟨j, h1, h2⟩ := h.hasE
      exact ⟨j, by omega, by rw [if_neg hb]; exact h2⟩
theorem smn_self (a : ByteArray) : smn a a = a := by
  rcases smn_cases a a with ⟨e, _⟩ | ⟨e, _⟩ <;> exact e
theorem inv_one (l : List S46) : Inv l 1 (sp (M l 0)).1 (sp (M l 0)).2 := by
  refine ⟨?_, ?_, ⟨0, by omega, rfl⟩, ⟨0, by omega, rfl⟩⟩
  · intro j hj
    have : j = 0 := by omega
    subst this
    exact L_irrefl _
  · intro j hj
    have : j = 0 := by omega
    subst this
    exact bef_irrefl _
theorem span_loop (l : List S46) (hl : l.length < 1000000) (hf : Fits l) : ∀ (d i k : Nat) (a b : ByteArray), d = l.length - i → i ≤ l.length → 2 * d < k → (0 < i → Inv l i a b) → 0 < l.length → ∃ x y, buffer_Span.l0 k l l (l.length : Int) (i : Int) a b = some (x, y, true) ∧ Inv l l.length x y
  | d, i, 0, _, _, _, _, h, _, _ => absurd h (by omega)
  | 0, i, k + 1, a, b, hd, hi, hk, hv, h0 => by
    have e : i = l.length := by omega
    subst e
    refine ⟨a, b, ?_, hv h0⟩
    rw [buffer_Span.l0, if_neg (by omega), decide_eq_true (show (l.length : Int) > 0 by omega)]
  | d + 1, i, k + 1, a, b, hd, hi, hk, hv, h0 => by
    obtain ⟨n, rfl⟩ : ∃ n, k = n + 1 := ⟨k - 1, by omega⟩
    have hj : ∀ (u v : ByteArray), buffer_Span.j1 (n + 1) l l (l.length : Int) (i : Int) u v (sp (M l i)).1 (sp (M l i)).2 = buffer_Span.l0 n l l (l.length : Int) ((i + 1 : Nat) : Int) (smn u (sp (M l i)).1) (if bef v.toList (sp (M l i)).2.toList = true then (sp (M l i)).2 else v) := by
      intro u v
      rw [buffer_Span.j1, last_f, Option.bind_some, succ_nat i (by omega)]
    rw [buffer_Span.l0, if_pos (by omega), if_pos (by omega), if_pos (by omega)]
    simp only [rd_nat]
    rw [span_f _ (hf i (by omega)), Option.bind_some, hj, hj]
    by_cases hi0 : i = 0
    · subst hi0
      rw [if_pos (by rfl), smn_self, bef_irrefl, if_neg (by decide)]
      exact span_loop l hl hf d (0 + 1) n _ _ (by omega) (by omega) (by omega) (fun _ => inv_one l) h0
    · rw [if_neg (by omega)]
      exact span_loop l hl hf d (i + 1) n _ _ (by omega) (by omega) (by omega) (fun _ => inv_next (hv (by omega))) h0
/-- does a message touch a key -/
def tch (m : S46) (s : ByteArray) : Bool := if pnt m = true then m.f2.toList == s.toList else decide (m.f0 = 4) && (!(Op.bytesLess s.toList m.f2.toList) && ahd s.toList m.f3.toList)
theorem refTouches_f (m : S46) (s : ByteArray) : catchmentref04_Touches.f m.f0 m.f1 m.f2 m.f3 m.f4 m.f5 s = some (tch m s) := by
  unfold catchmentref04_Touches.f tch ahd
  rw [refPoint_f, Option.bind_some]
  by_cases h : pnt m = true
  · rw [if_pos h, if_pos h]
  · rw [if_neg h, if_neg h]
    by_cases h4 : m.f0 = 4
    · rw [if_pos h4, decide_eq_true h4]
      by_cases h5 : Op.bytesLess s.toList m.f2.toList = true
      · rw [if_pos h5, h5]; rfl
      · rw [if_neg h5, (by simpa using h5 : Op.bytesLess s.toList m.f2.toList = false)]
        cases m.f3.toList <;> simp
    · rw [if_neg h4, decide_eq_false h4]; rfl
theorem refHolds_f (a0 a1 s : ByteArray) : catchmentref02_Holds.f a0 a1 s = some (!(Op.bytesLess s.toList a0.toList) && ahd s.toList a1.toList) := by
  unfold catchmentref02_Holds.f ahd
  by_cases h : Op.bytesLess s.toList a0.toList = true
  · rw [if_pos h, h]; rfl
  · rw [if_neg h]
    have h2 : Op.bytesLess s.toList a0.toList = false := by simpa using h
    rw [h2]
    cases h3 : a1.toList <;> simp
/-- what is before one end is before a later one -/
theorem ahd_le {s e b : List UInt8} (h : ahd s e = true) (h2 : bef b e = false) : ahd s b = true := by
  cases b with
  | nil => rfl
  | cons x b =>
    refine ahd_iff.2 (.inr ?_)
    rcases ahd_iff.1 h with h3 | h3
    · rw [h3] at h2; simp [bef] at h2
    · refine L_of_lt h3 ?_
      intro h4
      rw [bef_iff.2 ⟨by simp, .inr h4⟩] at h2
      cases h2
theorem tch_in {m : S46} {s : ByteArray} (h : tch m s = true) : ¬ L s.toList (sp m).1.toList ∧ ahd s.toList (sp m).2.toList = true := by
  unfold tch at h
  unfold sp
  by_cases hp : pnt m = true
  · rw [if_pos hp] at h ⊢
    have h2 := beq_iff_eq.mp h
    refine ⟨by rw [h2]; exact L_irrefl _, ?_⟩
    rw [after_toList, h2]
    exact ahd_iff.2 (.inr (L_append_zero _))
  · rw [if_neg hp] at h ⊢
    rw [Bool.and_eq_true, decide_eq_true_iff, Bool.and_eq_true] at h
    rw [if_pos h.1]
    exact ⟨fun h3 => by rw [show Op.bytesLess s.toList m.f2.toList = true from h3] at h; exact absurd h.2.1 (by decide), h.2.2⟩
theorem within_one {m : S46} {a b : ByteArray} (ho : own m = true) (h1 : ¬ L (sp m).1.toList a.toList) (h2 : bef b.toList (sp m).2.toList = false) (k : Nat) : key_Within.f (k + 1) (sp m).1 (sp m).2 a b = some true := by
  have hr : ahd (sp m).1.toList (sp m).2.toList = true := by unfold own at ho; rw [Bool.and_eq_true] at ho; exact ho.2
  have hab : ahd a.toList b.toList = true := by
    have h3 := ahd_le hr h2
    rcases ahd_iff.1 h3 with h4 | h4
    · exact ahd_iff.2 (.inl h4)
    · exact ahd_iff.2 (.inr (L_of_le h1 h4))
  have e1 : smx (sp m).1 a = (sp m).1 := by unfold smx; rw [if_neg h1]
  rw [within_f]
  unfold meet
  rw [e1, h2, if_neg (show ¬ false = true by decide), if_pos ⟨hr, hab, hr⟩]
  simp
theorem within_all (l : List S46) (hf : Fits l) (hr : rt l = true) (a b : ByteArray) (hv : Inv l l.length a b) (k : Nat) : ∀ (d i : Nat), d = l.length - i → i ≤ l.length → buffer_Within.ix (k + 1) a b (l.drop i) i = some (-1)
  | 0, i, hd, hi => by rw [List.drop_eq_nil_of_le (by omega), buffer_Within.ix]
  | d + 1, i, hd, hi => by
    have hm : l[i]'(by omega) = M l i := by
      show _ = l.getD ((i : Int)).toNat z46
      rw [Int.toNat_natCast, List.getD_eq_getElem?_getD, List.getElem?_eq_getElem (by omega)]; rfl
    rw [List.drop_eq_getElem_cons (by omega), buffer_Within.ix, hm, buffer_Within.inn, span_f _ (hf i (by omega)), Option.bind_some, within_one (rt_own l hr i (by omega)) (hv.low i (by omega)) (hv.high i (by omega)), Option.bind_some, if_pos rfl]
    exact within_all l hf hr a b hv k d (i + 1) (by omega) (by omega)
theorem law_loop (l : List S46) (hl : l.length ≤ 30) (hf : Fits l) (hr : rt l = true) (s a b : ByteArray) (hv : Inv l l.length a b) : ∀ (d i k : Nat) (x y : Bool), d = l.length - i → i ≤ l.length → 150 + 3 * d < k → (x = true ∨ ∃ j, i ≤ j ∧ j < l.length ∧ F l j = a.toList) → (y = true ∨ ∃ j, i ≤ j ∧ j < l.length ∧ E l j = b.toList) → catchmentlaw12_BufferSpans.l0 k l s true x y (i : Int) a b = some true
  | d, i, 0, _, _, _, _, h, _, _ => absurd h (by omega)
  | 0, i, k + 1, x, y, hd, hi, hk, hx, hy => by
    have e : i = l.length := by omega
    subst e
    have ex : x = true := by
      rcases hx with h | ⟨j, h1, h2, _⟩
      · exact h
      · omega
    have ey : y = true := by
      rcases hy with h | ⟨j, h1, h2, _⟩
      · exact h
      · omega
    subst ex
    subst ey
    obtain ⟨n, rfl⟩ : ∃ n, k = n + 1 := ⟨k - 1, by omega⟩
    have hw := within_all l hf hr a b hv n l.length 0 (by omega) (by omega)
    rw [List.drop_zero] at hw
    rw [catchmentlaw12_BufferSpans.l0, if_neg (by omega), slive_ge (by omega), Option.bind_some, if_pos rfl, if_pos rfl, if_pos rfl, if_pos rfl]
    unfold buffer_Within.f
    rw [hw]
    rfl
  | d + 1, i, k + 1, x, y, hd, hi, hk, hx, hy => by
    obtain ⟨n, rfl⟩ : ∃ n, k = n + 2 := ⟨k - 2, by omega⟩
    have h2 : ∀ (x y : Bool), (x = true ∨ ∃ j, i + 1 ≤ j ∧ j < l.length ∧ F l j = a.toList) → (y = true ∨ ∃ j, i + 1 ≤ j ∧ j < l.length ∧ E l j = b.toList) → catchmentlaw12_BufferSpans.j2 (n + 1) l s true x y (i : Int) a b = some true := by
      intro x y hx hy
      have ih := law_loop l hl hf hr s a b hv d (i + 1) n x y (by omega) (by omega) (by omega) hx hy
      rw [catchmentlaw12_BufferSpans.j2, if_pos (by omega), if_pos (by omega), succ_nat i (by omega)]
      simp only [rd_nat]
      rw [refTouches_f, Option.bind_some, refHolds_f, Option.bind_some, ih]
      cases ht : tch (M l i) s with
      | false => rfl
      | true =>
        obtain ⟨t1, t2⟩ := tch_in ht
        have t3 : Op.bytesLess s.toList a.toList = false := by
          cases h : Op.bytesLess s.toList a.toList with
          | false => rfl
          | true => exact absurd (show L s.toList a.toList from h) (Go.Proofs.YtnklnjghecmihaaW.Ord.le_trans (hv.low i (by omega)) t1)
        rw [if_pos rfl, t3, ahd_le t2 (hv.high i (by omega))]
        rfl
    have h1 : ∀ (x y : Bool), (x = true ∨ ∃ j, i + 1 ≤ j ∧ j < l.length ∧ F l j = a.toList) → (y = true ∨ ∃ j, i ≤ j ∧ j < l.length ∧ E l j = b.toList) → catchmentlaw12_BufferSpans.j1 (n + 2) l s true x y (i : Int) a b (sp (M l i)).1 (sp (M l i)).2 = some true := by
      intro x y hx hy
      rw [catchmentlaw12_BufferSpans.j1]
      by_cases e : y = true
      · rw [if_pos e]
        exact h2 x true hx (.inl rfl)
      · rw [if_neg e]
        refine h2 x _ hx ?_
        rcases hy with h | ⟨j, j1, j2, j3⟩
        · exact absurd h e
        · by_cases hj : j = i
          · left; subst hj; rw [beq_iff_eq]; exact j3
          · right; exact ⟨j, by omega, j2, j3⟩
    rw [catchmentlaw12_BufferSpans.l0, if_pos (by omega), if_pos (by omega)]
    simp only [rd_nat]
    rw [refSpan_f _ (hf i (by omega)), Option.bind_some]
    by_cases e : x = true
    · rw [if_pos e]
      exact h1 true y (.inl rfl) hy
    · rw [if_neg e]
      refine h1 _ y ?_ hy
      rcases hx with h | ⟨j, j1, j2, j3⟩
      · exact absurd h e
      · by_cases hj : j = i
        · left; subst hj; rw [beq_iff_eq]; exact j3
        · right; exact ⟨j, by omega, j2, j3⟩
theorem BufferSpans : catchmentlaw12_BufferSpans.Pure := by
  intro l s hl0 _
  refine ⟨300, ?_⟩
  unfold catchmentlaw12_BufferSpans.f
  have hm : 0 ≤ mn (l.length : Int) 30 ∧ mn (l.length : Int) 30 ≤ (l.length : Int) ∧ mn (l.length : Int) 30 ≤ 30 := by
    unfold mn
    split <;> omega
  generalize mn (l.length : Int) 30 = m at hm
  rw [if_pos hm.1, if_pos hm.2.1]
  have hl : (l.take m.toNat).length ≤ 30 := by rw [List.length_take]; omega
  have hf : Fits (l.take m.toNat) := by
    intro i hi
    have hmem : M (l.take m.toNat) i ∈ l := by
      have e : M (l.take m.toNat) i = (l.take m.toNat)[i]'hi := by
        show (l.take m.toNat).getD ((i : Int)).toNat z46 = _
        rw [Int.toNat_natCast, List.getD_eq_getElem?_getD, List.getElem?_eq_getElem hi]; rfl
      rw [e]
      exact List.mem_of_mem_take (List.getElem_mem hi)
    have := (hl0.2.2 _ hmem).2.2.1
    unfold fits
    dsimp only at this
    omega
  generalize l.take m.toNat = p at hl hf
  rw [Option.bind_some, refBuf_f p (by omega) hf _ (by omega), Option.bind_some]
  cases hr : rt p with
  | false => rw [if_neg (by decide), slive_ge (by omega)]; rfl
  | true =>
    rw [if_pos rfl]
    by_cases h0 : p.length = 0
    · have hp : p = [] := List.eq_nil_of_length_eq_zero h0
      subst hp
      have hs : buffer_Span.f 300 [] = some (⟨#[]⟩, ⟨#[]⟩, false) := rfl
      rw [hs, Option.bind_some, if_pos (show (([] : List S46).length : Int) = 0 from rfl), slive_ge (by omega), Option.bind_some, if_pos rfl]
      have he : (⟨#[]⟩ : ByteArray).toList = [] := toList_empty
      simp [he]
    · obtain ⟨x, y, q1, q2⟩ := span_loop p (by omega) hf p.length 0 300 ⟨#[]⟩ ⟨#[]⟩ (by omega) (by omega) (by omega) (fun h => absurd h (by omega)) (by omega)
      have hs : buffer_Span.f 300 p = some (x, y, true) := q1
      obtain ⟨j1, u1, u2⟩ := q2.hasF
      obtain ⟨j2, v1, v2⟩ := q2.hasE
      rw [hs, Option.bind_some, if_neg (by omega)]
      exact law_loop p hl hf hr s x y q2 p.length 0 300 false false (by omega) (by omega) (by omega) (.inr ⟨j1, by omega, u1, u2⟩) (.inr ⟨j2, by omega, v1, v2⟩)
end Go.Proofs.Ytnklnjghecmihaa.Pure
