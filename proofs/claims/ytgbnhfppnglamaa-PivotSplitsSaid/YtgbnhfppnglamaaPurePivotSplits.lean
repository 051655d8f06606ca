/- For all pivots, ranges and keys the law PivotSplits answers true: no condition beyond what a Go value of these types can be. -/
import Derived.Test.YtgbnhfppnglamaaQ5x5
import Derived.Test.YtgbnhfppnglamaaQ5SPivotSpans
import Derived.Test.YtgbnhfppnglamaaQ5SPivotPart
set_option linter.unusedVariables false
set_option linter.unusedSimpArgs false
namespace Go.Proofs.Ytgbnhfppnglamaa.Pure
open Go.RowKit Go.Proofs.Ytgbnhfppnglamaa.Q5 Go.Proofs.Ytgbnhfppnglamaa.PivotSpec Go.Proofs.YtgbnhfppnglamaaW.PrintWords Go.Proofs.YtgbnhfppnglamaaW.PrintLast Go.Proofs.YtgbnhfppnglamaaW.PrintMore Go.Proofs.YtgbnhfppnglamaaW.Mine Go.Proofs.YtgbnhfppnglamaaW.Ord
theorem plive_60 : catchmentlaw13_live.f 60 = some true := by decide +kernel
theorem plive_ge {k : Nat} (h : 60 ≤ k) : catchmentlaw13_live.f k = some true := by
  obtain ⟨m, rfl⟩ : ∃ m, k = 60 + m := ⟨k - 60, by omega⟩
  induction m with
  | zero => exact plive_60
  | succ m ih => exact catchmentlaw13_live.mono (60 + m) _ (ih (by omega))
theorem rt_parts {p : List ByteArray} {a b : List UInt8} (h : rt p a b = true) : ahd a b = true ∧ rs p (p.length - 1) 1 = true ∧ (0 < p.length → L a (K p 0) ∧ ahd (K p (p.length - 1)) b = true) := by
  unfold rt at h
  rw [Bool.and_eq_true, Bool.and_eq_true] at h
  refine ⟨h.1, h.2.1, fun h0 => ?_⟩
  have hz : (p.length == 0) = false := by rw [beq_eq_false_iff_ne]; omega
  have h2 := h.2.2
  simp only [hz, Bool.false_or, Bool.and_eq_true] at h2
  exact h2
theorem ahd_iff {a b : List UInt8} : ahd a b = true ↔ (b = [] ∨ L a b) := by
  unfold ahd L
  cases b <;> simp
theorem ins_length (l : List ByteArray) (c : Nat) (s : ByteArray) (hc : c ≤ l.length) : (pivot_Put.ins l c s).length = l.length + 1 := by
  unfold pivot_Put.ins
  simp only [List.length_append, List.length_take, List.length_drop, List.length_singleton]
  omega
theorem rd_lt (l : List ByteArray) (c : Nat) (s : ByteArray) (hc : c ≤ l.length) (j : Nat) (h : j < c) : rdOf ByteArray.empty (pivot_Put.ins l c s) (j : Int) = rdOf ByteArray.empty l (j : Int) := by
  unfold rdOf pivot_Put.ins
  simp only [Int.toNat_natCast, List.getD_eq_getElem?_getD]
  rw [List.append_assoc, List.getElem?_append_left (by rw [List.length_take]; omega), List.getElem?_take, if_pos h]
theorem rd_eq (l : List ByteArray) (c : Nat) (s : ByteArray) (hc : c ≤ l.length) : rdOf ByteArray.empty (pivot_Put.ins l c s) (c : Int) = s := by
  have hl : (l.take c).length = c := by rw [List.length_take]; omega
  unfold rdOf pivot_Put.ins
  simp only [Int.toNat_natCast, List.getD_eq_getElem?_getD]
  rw [List.append_assoc, List.getElem?_append_right (by omega), hl, Nat.sub_self]
  rfl
theorem rd_gt (l : List ByteArray) (c : Nat) (s : ByteArray) (hc : c ≤ l.length) (j : Nat) (h : c ≤ j) : rdOf ByteArray.empty (pivot_Put.ins l c s) ((j + 1 : Nat) : Int) = rdOf ByteArray.empty l (j : Int) := by
  have hl : (l.take c).length = c := by rw [List.length_take]; omega
  unfold rdOf pivot_Put.ins
  simp only [Int.toNat_natCast, List.getD_eq_getElem?_getD]
  rw [List.append_assoc, List.getElem?_append_right (by omega), hl, show j + 1 - c = (j - c) + 1 by omega, List.singleton_append, List.getElem?_cons_succ, List.getElem?_drop, show c + (j - c) = j by omega]
theorem part_lt (l : List ByteArray) (a b : ByteArray) (c : Nat) (s : ByteArray) (hc : c ≤ l.length) (j : Nat) (h : j < c) : pivot_All.part (pivot_Put.ins l c s) a b j = pivot_All.part l a b j := by
  unfold pivot_All.part
  rw [if_pos (show j < (pivot_Put.ins l c s).length by rw [ins_length l c s hc]; omega), if_pos (show j < l.length by omega), rd_lt l c s hc j h]
  by_cases h0 : j = 0
  · rw [if_pos h0, if_pos h0]
  · rw [if_neg h0, if_neg h0, show (j : Int) - 1 = ((j - 1 : Nat) : Int) by omega, rd_lt l c s hc (j - 1) (by omega)]
theorem part_eq (l : List ByteArray) (a b : ByteArray) (c : Nat) (s : ByteArray) (hc : c ≤ l.length) : pivot_All.part (pivot_Put.ins l c s) a b c = ((pivot_All.part l a b c).1, s) := by
  unfold pivot_All.part
  rw [if_pos (show c < (pivot_Put.ins l c s).length by rw [ins_length l c s hc]; omega), rd_eq l c s hc]
  by_cases h0 : c = 0
  · rw [if_pos h0, if_pos h0]
  · rw [if_neg h0, if_neg h0, show (c : Int) - 1 = ((c - 1 : Nat) : Int) by omega, rd_lt l c s hc (c - 1) (by omega)]
theorem part_next (l : List ByteArray) (a b : ByteArray) (c : Nat) (s : ByteArray) (hc : c ≤ l.length) : pivot_All.part (pivot_Put.ins l c s) a b (c + 1) = (s, (pivot_All.part l a b c).2) := by
  unfold pivot_All.part
  rw [if_neg (by omega), show ((c + 1 : Nat) : Int) - 1 = (c : Int) by omega, rd_eq l c s hc, ins_length l c s hc, rd_gt l c s hc c (by omega)]
  by_cases h0 : c < l.length
  · rw [if_pos (by omega), if_pos h0]
  · rw [if_neg (by omega), if_neg h0]
theorem part_gt (l : List ByteArray) (a b : ByteArray) (c : Nat) (s : ByteArray) (hc : c ≤ l.length) (j : Nat) (h : c < j) : pivot_All.part (pivot_Put.ins l c s) a b (j + 1) = pivot_All.part l a b j := by
  unfold pivot_All.part
  obtain ⟨i, rfl⟩ : ∃ i, j = i + 1 := ⟨j - 1, by omega⟩
  have hl := ins_length l c s hc
  rw [if_neg (show ¬ (i + 1 + 1 = 0) by omega), if_neg (show ¬ (i + 1 = 0) by omega), show ((i + 1 + 1 : Nat) : Int) - 1 = ((i + 1 : Nat) : Int) by omega, show ((i + 1 : Nat) : Int) - 1 = (i : Int) by omega, rd_gt l c s hc i (by omega), hl, rd_gt l c s hc (i + 1) (by omega)]
  by_cases h0 : i + 1 < l.length
  · rw [if_pos (by omega), if_pos h0]
  · rw [if_neg (by omega), if_neg h0]
def pr (p : List ByteArray) (a b : ByteArray) (j : Nat) : S80 := ⟨(pivot_All.part p a b j).1, (pivot_All.part p a b j).2⟩
theorem parts_get (p : List ByteArray) (a b : ByteArray) (m j : Nat) : (parts p a b m)[j]? = if j < m then some (pr p a b j) else none := by
  unfold parts pivot_All.upto pivot_All.at pr
  by_cases h : j < m
  · simp [h]
  · simp [h]
theorem parts_at (p : List ByteArray) (a b : ByteArray) (m j : Nat) (h : j < m) : rd_T80 (parts p a b m) (j : Int) = pr p a b j := by
  unfold rd_T80
  simp only [Int.toNat_natCast, List.getD_eq_getElem?_getD]
  rw [parts_get, if_pos h]
  rfl
theorem take_same (l : List ByteArray) (a b : ByteArray) (c : Nat) (s : ByteArray) (hc : c ≤ l.length) (m m' : Nat) (hm : c ≤ m) (hm' : c ≤ m') : (parts (pivot_Put.ins l c s) a b m).take c = (parts l a b m').take c := by
  apply List.ext_getElem?
  intro j
  rw [List.getElem?_take, List.getElem?_take, parts_get, parts_get]
  by_cases h : j < c
  · rw [if_pos h, if_pos h, if_pos (by omega), if_pos (by omega), pr, pr, part_lt l a b c s hc j h]
  · rw [if_neg h, if_neg h]
theorem drop_same (l : List ByteArray) (a b : ByteArray) (c : Nat) (s : ByteArray) (hc : c ≤ l.length) (m : Nat) : (parts (pivot_Put.ins l c s) a b (m + 1)).drop (c + 2) = (parts l a b m).drop (c + 1) := by
  apply List.ext_getElem?
  intro j
  rw [List.getElem?_drop, List.getElem?_drop, parts_get, parts_get]
  by_cases h : c + 1 + j < m
  · rw [if_pos (by omega), if_pos h, pr, pr, show c + 2 + j = (c + 1 + j) + 1 by omega, part_gt l a b c s hc _ (by omega)]
  · rw [if_neg (by omega), if_neg h]
theorem same2_loop (s : List S80) (hs : s.length < 1000000) : ∀ (d i k : Nat), d = s.length - i → i ≤ s.length → d < k → catchmentref02_Same.l0 k s s (i : Int) = some true
  | d, i, 0, _, _, h => absurd h (by omega)
  | 0, i, k + 1, hd, hi, hk => by rw [catchmentref02_Same.l0, if_neg (by omega)]
  | d + 1, i, k + 1, hd, hi, hk => by
    have e1 : wrap64 ((i : Int) + 1) = ((i + 1 : Nat) : Int) := by rw [wrap64_id (by omega) (by omega)]; omega
    rw [catchmentref02_Same.l0, if_pos (by omega), if_pos (by omega), if_pos (by omega), if_neg (by simp), e1]
    exact same2_loop s hs d (i + 1) k (by omega) (by omega) (by omega)
theorem same2_f (s : List S80) (hs : s.length < 1000000) (k : Nat) (hk : s.length < k) : catchmentref02_Same.f k s s = some true := by
  unfold catchmentref02_Same.f
  rw [if_pos rfl]
  exact same2_loop s hs s.length 0 k (by omega) (by omega) hk
theorem same3_loop (s : List ByteArray) (hs : s.length < 1000000) : ∀ (d i k : Nat), d = s.length - i → i ≤ s.length → d < k → catchmentref03_Same.l0 k s s (i : Int) = some true
  | d, i, 0, _, _, h => absurd h (by omega)
  | 0, i, k + 1, hd, hi, hk => by rw [catchmentref03_Same.l0, if_neg (by omega)]
  | d + 1, i, k + 1, hd, hi, hk => by
    have e1 : wrap64 ((i : Int) + 1) = ((i + 1 : Nat) : Int) := by rw [wrap64_id (by omega) (by omega)]; omega
    rw [catchmentref03_Same.l0, if_pos (by omega), if_pos (by omega), if_pos (by omega), if_pos rfl, e1]
    exact same3_loop s hs d (i + 1) k (by omega) (by omega) (by omega)
theorem same3_f (s : List ByteArray) (hs : s.length < 1000000) (k : Nat) (hk : s.length < k) : catchmentref03_Same.f k s s = some true := by
  unfold catchmentref03_Same.f
  rw [if_pos rfl]
  exact same3_loop s hs s.length 0 k (by omega) (by omega) hk
theorem split_f (f t s : ByteArray) (h1 : ahd f.toList t.toList = true) (h2 : L f.toList s.toList) (h3 : ahd s.toList t.toList = true) : catchmentref02_Split.f f t s = some (f, s, s, t, true) := by
  unfold catchmentref02_Split.f
  rw [refRange_f, Option.bind_some, if_pos h1, if_pos (show Op.bytesLess f.toList s.toList = true from h2)]
  by_cases hb : t.toList = []
  · rw [if_pos hb]
  · rw [if_neg hb]
    rcases ahd_iff.1 h3 with h | h
    · exact absurd h hb
    · rw [if_pos (show Op.bytesLess s.toList t.toList = true from h)]
theorem drop_f (l : List ByteArray) (c : Nat) (s : ByteArray) (hc : c ≤ l.length) (hl : l.length < 999999) : pivot_Drop.f (pivot_Put.ins l c s) (c : Int) = some (l, true) := by
  have hlen := ins_length l c s hc
  have e1 : wrap64 ((c : Int) + 1) = ((c + 1 : Nat) : Int) := by rw [wrap64_id (by omega) (by omega)]; omega
  have h1 : (pivot_Put.ins l c s).take c = l.take c := by
    unfold pivot_Put.ins
    rw [List.append_assoc]
    exact List.take_left' (by rw [List.length_take]; omega)
  have h2 : (pivot_Put.ins l c s).drop (c + 1) = l.drop c := by
    unfold pivot_Put.ins
    exact List.drop_left' (by rw [List.length_append, List.length_take, List.length_singleton]; omega)
  unfold pivot_Drop.f
  rw [if_neg (by omega), if_neg (by omega), if_pos (by omega), if_pos (by omega), e1, if_pos (by omega), if_pos (by omega)]
  simp only [Int.toNat_natCast]
  rw [h1, h2]
  unfold slices_Concat_string_string.f slices_Concat_string_string.total
  rw [if_pos (by simp only [List.map_cons, List.map_nil, List.sum_cons, List.sum_nil, List.length_take, List.length_drop]; omega), Option.bind_some]
  simp
theorem rest (k : Nat) (hk : 200 ≤ k) (p : List ByteArray) (hp : p.length ≤ 30) (a b s : ByteArray) (c : Nat) (hc : Cut p s.toList c) (hr : rt p a.toList b.toList = true) (hr2 : rt (pivot_Put.ins p c s) a.toList b.toList = true) :
    catchmentlaw13_PivotSplits.j1 (k + 1) p s (c : Int) (pivot_Put.ins p c s) (parts p a b (p.length + 1)) (parts (pivot_Put.ins p c s) a b (p.length + 1 + 1)) false = some true := by
  obtain ⟨c1, c2, c3⟩ := hc
  have e1 : wrap64 ((c : Int) + 1) = ((c + 1 : Nat) : Int) := by rw [wrap64_id (by omega) (by omega)]; omega
  have e2 : wrap64 ((c : Int) + 2) = ((c + 2 : Nat) : Int) := by rw [wrap64_id (by omega) (by omega)]; omega
  have hl1 := parts_length p a b (p.length + 1)
  have hl2 := parts_length (pivot_Put.ins p c s) a b (p.length + 1 + 1)
  have hlen := ins_length p c s c1
  obtain ⟨q1, q2, q3⟩ := rt_parts hr2
  obtain ⟨r1, r2, r3⟩ := rt_parts hr
  have hK : K (pivot_Put.ins p c s) c = s.toList := by unfold K; rw [rd_eq p c s c1]
  have hfs : L (pivot_All.part p a b c).1.toList s.toList := by
    unfold pivot_All.part
    by_cases h0 : c = 0
    · rw [if_pos h0]
      have := (q3 (by omega)).1
      rw [show (0 : Nat) = c from h0.symm, hK] at this
      exact this
    · rw [if_neg h0, show (c : Int) - 1 = ((c - 1 : Nat) : Int) by omega]
      have := rises_lt (pivot_Put.ins p c s) q2 (c - 1) c (by omega) (by omega)
      rw [hK] at this
      unfold K at this
      rw [rd_lt p c s c1 (c - 1) (by omega)] at this
      exact this
  have hst : ahd s.toList (pivot_All.part p a b c).2.toList = true := by
    unfold pivot_All.part
    by_cases h0 : c < p.length
    · rw [if_pos h0]
      exact ahd_iff.2 (.inr (c3 c (Nat.le_refl _) h0))
    · rw [if_neg h0]
      have := (q3 (by omega)).2
      rw [show (pivot_Put.ins p c s).length - 1 = c by omega, hK] at this
      exact this
  have hft : ahd (pivot_All.part p a b c).1.toList (pivot_All.part p a b c).2.toList = true := by
    rcases ahd_iff.1 hst with h | h
    · exact ahd_iff.2 (.inl h)
    · exact ahd_iff.2 (.inr (L_trans hfs h))
  rw [catchmentlaw13_PivotSplits.j1, if_neg (by decide), if_pos (by omega), if_pos (by omega), parts_at p a b _ c (by omega)]
  show ((catchmentref02_Split.f (pivot_All.part p a b c).1 (pivot_All.part p a b c).2 s).bind _) = _
  rw [split_f _ _ _ hft hfs hst, Option.bind_some, drop_f p c s c1 (by omega), Option.bind_some, plive_ge (by omega), Option.bind_some, if_pos rfl, if_pos rfl, if_pos (by omega), parts_at _ a b _ c (by omega), e1, e2]
  have hp1 : pr (pivot_Put.ins p c s) a b c = ⟨(pivot_All.part p a b c).1, s⟩ := by rw [pr, part_eq p a b c s c1]
  have hp2 : pr (pivot_Put.ins p c s) a b (c + 1) = ⟨s, (pivot_All.part p a b c).2⟩ := by rw [pr, part_next p a b c s c1]
  rw [hp1, if_pos (by simp), if_pos (by omega), if_pos (by omega), parts_at _ a b _ (c + 1) (by omega), hp2, if_pos (by simp), if_pos (by omega), if_pos (by omega)]
  simp only [Int.toNat_natCast]
  rw [take_same p a b c s c1 _ (p.length + 1) (by omega) (by omega), same2_f _ (by rw [List.length_take]; omega) k (by rw [List.length_take]; omega), Option.bind_some, if_pos rfl, if_pos (by omega), if_pos (by omega), if_pos (by omega),
    drop_same p a b c s c1 (p.length + 1), same2_f _ (by rw [List.length_drop]; omega) k (by rw [List.length_drop]; omega), Option.bind_some, if_pos rfl]
  simp only [if_true]
  rw [same3_f p (by omega) k (by omega)]
  rfl
theorem PivotSplits : catchmentlaw13_PivotSplits.Pure := by
  intro l y s _ _ _
  refine ⟨300 + 1 + 1, ?_⟩
  unfold catchmentlaw13_PivotSplits.f
  have hm : 0 ≤ mn (l.length : Int) 30 ∧ mn (l.length : Int) 30 ≤ (l.length : Int) ∧ mn (l.length : Int) 30 ≤ 30 := by
    unfold mn
    split <;> omega
  generalize mn (l.length : Int) 30 = m at hm
  rw [if_pos hm.1, if_pos hm.2.1]
  have hl : (l.take m.toNat).length ≤ 30 := by rw [List.length_take]; omega
  generalize l.take m.toNat = p at hl
  obtain ⟨a, b⟩ := y
  show ((catchmentref13_Right.f (300 + 1 + 1) p a b).bind _) = _
  rw [refRight_f p (by omega) _ (by omega), Option.bind_some]
  cases hr : rt p a.toList b.toList with
  | false => rw [if_neg (by decide), plive_ge (by omega)]; rfl
  | true =>
    obtain ⟨c, hc⟩ := cut_ex p (rt_parts hr).2.1 s.toList
    have c1 := hc.1
    have hlen := ins_length p c s c1
    rw [if_pos rfl, part_f p (by omega) s (rt_parts hr).2.1 c hc _ (by omega), Option.bind_some]
    unfold pivot_Put.f
    rw [if_pos (by omega), if_neg (by omega), if_neg (by omega), Int.toNat_natCast, rises_f _ (by rw [hlen]; omega) _ (by rw [hlen]; omega), Option.bind_some]
    cases hq : rs (pivot_Put.ins p c s) ((pivot_Put.ins p c s).length - 1) 1 with
    | false =>
      rw [if_neg (by decide), Option.bind_some, if_neg (by decide), catchmentlaw13_PivotSplits.j0, if_pos rfl, plive_ge (by omega), Option.bind_some, if_pos rfl]
      rfl
    | true =>
      rw [if_pos rfl, Option.bind_some, if_pos rfl]
      dsimp only
      rw [refRight_f (pivot_Put.ins p c s) (by omega) _ (by omega), Option.bind_some]
      cases hr2 : rt (pivot_Put.ins p c s) a.toList b.toList with
      | false =>
        rw [catchmentlaw13_PivotSplits.j0, if_pos (by rfl), plive_ge (by omega), Option.bind_some, if_pos rfl]
        have : (((pivot_Put.ins p c s).length : Int) == 0) = false := by rw [beq_eq_false_iff_ne]; omega
        show some ((((pivot_Put.ins p c s).length : Int) == 0) == (!true)) = some true
        rw [this]
        rfl
      | true =>
        have hl1 := parts_length p a b (p.length + 1)
        have hl2 := parts_length (pivot_Put.ins p c s) a b (p.length + 1 + 1)
        have e1 : wrap64 (((p.length + 1 : Nat) : Int) + 1) = ((p.length + 1 + 1 : Nat) : Int) := by rw [wrap64_id (by omega) (by omega)]; omega
        rw [catchmentlaw13_PivotSplits.j0, if_neg (by decide), spans_f p (by omega) a b _ (by omega), Option.bind_some, spans_f _ (by omega) a b _ (by omega), Option.bind_some, hr, hr2, if_pos rfl, if_pos rfl, hlen]
        show (if ((parts (pivot_Put.ins p c s) a b (p.length + 1 + 1)).length : Int) = wrap64 (((parts p a b (p.length + 1)).length : Int) + 1) then _ else _) = _
        rw [hl1, hl2, e1, if_pos rfl]
        have : decide ((c : Int) ≥ ((p.length + 1 : Nat) : Int)) = false := decide_eq_false (by omega)
        show catchmentlaw13_PivotSplits.j1 (300 + 1) p s (c : Int) (pivot_Put.ins p c s) (parts p a b (p.length + 1)) (parts (pivot_Put.ins p c s) a b (p.length + 1 + 1)) (decide ((c : Int) ≥ ((p.length + 1 : Nat) : Int))) = some true
        rw [this]
        exact rest 300 (by omega) p hl a b s c hc hr hr2
end Go.Proofs.Ytgbnhfppnglamaa.Pure
