/- For every range, every row of ends and every text the law KeyPieces answers true: no condition beyond what a Go value of these types can be. -/
import Derived.Test.YtdlhiadekgnieaaQ1x46
import Derived.Test.YtdlhiadekgnieaaQ1x45
import Derived.Test.YtdlhiadekgnieaaQ1x44
import Derived.Test.YtdlhiadekgnieaaQ1x43
import Derived.Test.YtdlhiadekgnieaaKeySpec
set_option linter.unusedVariables false
set_option linter.unusedSimpArgs false
namespace Go.Proofs.Ytdlhiadekgnieaa.Pure
open Go.RowKit Go.Proofs.Ytdlhiadekgnieaa.Q1 Go.Proofs.Ytdlhiadekgnieaa.KeySpec Go.Proofs.YtdlhiadekgnieaaW.PrintWords Go.Proofs.YtdlhiadekgnieaaW.PrintLast Go.Proofs.YtdlhiadekgnieaaW.Ord Go.Proofs.YtdlhiadekgnieaaW.Mine
/-- may a range be parted there? -/
def spl (f t s : ByteArray) : Bool := ahd f.toList t.toList && (Op.bytesLess f.toList s.toList && ahd s.toList t.toList)
/-- both parts of a range -/
def parts (f t s : ByteArray) : ByteArray × ByteArray × ByteArray × ByteArray × Bool := if spl f t s = true then (f, s, s, t, true) else (⟨#[]⟩, ⟨#[]⟩, ⟨#[]⟩, ⟨#[]⟩, false)
theorem split_f (f t s : ByteArray) : key_Split.f f t s = some (parts f t s) := by
  unfold key_Split.f parts spl
  rw [rightRange_f]
  simp only [Option.bind_some, ahead_f]
  cases h1 : ahd f.toList t.toList <;> cases h2 : Op.bytesLess f.toList s.toList <;> cases h3 : ahd s.toList t.toList <;> simp
theorem refSplit_f (f t s : ByteArray) : catchmentref02_Split.f f t s = some (parts f t s) := by
  unfold catchmentref02_Split.f parts spl
  rw [refRight_f]
  simp only [Option.bind_some]
  cases h1 : ahd f.toList t.toList <;> cases h2 : Op.bytesLess f.toList s.toList
  · simp
  · simp
  · simp
  · by_cases h4 : t.toList = []
    · simp [h4, ahd]
    · cases h5 : Op.bytesLess s.toList t.toList <;> simp [h4, h5, ahd]
/-- a range, parted at ends -/
def pcs (f t : ByteArray) : List ByteArray → List S28
  | [] => [⟨f, t⟩]
  | s :: r => if spl f t s = true then ⟨f, s⟩ :: pcs s t r else pcs f t r
theorem pcs_len (t : ByteArray) : ∀ (r : List ByteArray) (f : ByteArray), (pcs f t r).length ≤ r.length + 1
  | [], _ => by simp [pcs]
  | s :: r, f => by
    have h1 := pcs_len t r s
    have h2 := pcs_len t r f
    simp only [pcs, List.length_cons]
    split
    · simp only [List.length_cons]; omega
    · omega
theorem rd_drop {l : List ByteArray} {i : Nat} (h : i < l.length) : ∃ s r, l.drop i = s :: r ∧ rdOf ByteArray.empty l (i : Int) = s ∧ l.drop (i + 1) = r := by
  refine ⟨l[i], l.drop (i + 1), List.drop_eq_getElem_cons h, ?_, rfl⟩
  unfold rdOf
  simp [h]
theorem pieces_loop (ends : List ByteArray) (hl : ends.length ≤ 30) (t : ByteArray) (d : Nat) : ∀ (k i : Nat) (acc : List S28) (f : ByteArray), i ≤ ends.length → ends.length - i ≤ d → d < k → acc.length ≤ i →
    key_Pieces.l0 k acc ends (ends.length : Int) (i : Int) f t = some (acc ++ pcs f t (ends.drop i)) := by
  induction d with
  | zero =>
    intro k i acc f hi hd hk ha
    obtain ⟨k, rfl⟩ : ∃ m, k = m + 1 := ⟨k - 1, by omega⟩
    have e : i = ends.length := by omega
    simp only [key_Pieces.l0]
    rw [if_neg (by omega), if_pos (by omega), e, List.drop_length]
    rfl
  | succ d ih =>
    intro k i acc f hi hd hk ha
    by_cases e : i = ends.length
    · exact ih k i acc f hi (by omega) (by omega) ha
    · obtain ⟨k, rfl⟩ : ∃ m, k = m + 1 := ⟨k - 1, by omega⟩
      obtain ⟨s, r, h1, h2, h3⟩ := rd_drop (l := ends) (i := i) (by omega)
      have hw : wrap64 ((i : Int) + 1) = ((i + 1 : Nat) : Int) := by unfold wrap64; omega
      simp only [key_Pieces.l0]
      rw [if_pos (by omega), if_pos (by omega), if_pos (by omega), h2, split_f, h1]
      simp only [Option.bind_some, parts, pcs, hw]
      by_cases c : spl f t s = true
      · rw [if_pos c, if_pos rfl, if_pos (by omega), if_pos c, ih k (i + 1) _ _ (by omega) (by omega) (by omega) (by simp; omega), h3]
        simp
      · rw [if_neg c, if_neg (by decide), if_neg c, ih k (i + 1) _ _ (by omega) (by omega) (by omega) (by omega), h3]
theorem refPieces_loop (ends : List ByteArray) (hl : ends.length ≤ 30) (t : ByteArray) (d : Nat) : ∀ (k i : Nat) (acc : List S28) (f : ByteArray), i ≤ ends.length → ends.length - i ≤ d → d < k → acc.length ≤ i →
    catchmentref02_Pieces.l0 k ends acc (i : Int) f t = some (acc ++ pcs f t (ends.drop i)) := by
  induction d with
  | zero =>
    intro k i acc f hi hd hk ha
    obtain ⟨k, rfl⟩ : ∃ m, k = m + 1 := ⟨k - 1, by omega⟩
    have e : i = ends.length := by omega
    simp only [catchmentref02_Pieces.l0]
    rw [if_neg (by omega), if_pos (by omega), e, List.drop_length]
    rfl
  | succ d ih =>
    intro k i acc f hi hd hk ha
    by_cases e : i = ends.length
    · exact ih k i acc f hi (by omega) (by omega) ha
    · obtain ⟨k, rfl⟩ : ∃ m, k = m + 1 := ⟨k - 1, by omega⟩
      obtain ⟨s, r, h1, h2, h3⟩ := rd_drop (l := ends) (i := i) (by omega)
      have hw : wrap64 ((i : Int) + 1) = ((i + 1 : Nat) : Int) := by unfold wrap64; omega
      simp only [catchmentref02_Pieces.l0]
      rw [if_pos (by omega), if_pos (by omega), h2, refSplit_f, h1]
      simp only [Option.bind_some, parts, pcs, hw]
      by_cases c : spl f t s = true
      · rw [if_pos c, if_pos rfl, if_pos (by omega), if_pos c, ih k (i + 1) _ _ (by omega) (by omega) (by omega) (by simp; omega), h3]
        simp
      · rw [if_neg c, if_neg (by decide), if_neg c, ih k (i + 1) _ _ (by omega) (by omega) (by omega) (by omega), h3]
theorem same_loop (l : List S28) (hl : l.length ≤ 100) (d : Nat) : ∀ (k i : Nat), i ≤ l.length → l.length - i ≤ d → d < k → catchmentref02_Same.l0 k l l (i : Int) = some true := by
  induction d with
  | zero =>
    intro k i hi hd hk
    obtain ⟨k, rfl⟩ : ∃ m, k = m + 1 := ⟨k - 1, by omega⟩
    simp only [catchmentref02_Same.l0]
    rw [if_neg (by omega)]
  | succ d ih =>
    intro k i hi hd hk
    by_cases e : i = l.length
    · exact ih k i hi (by omega) (by omega)
    · obtain ⟨k, rfl⟩ : ∃ m, k = m + 1 := ⟨k - 1, by omega⟩
      have hw : wrap64 ((i : Int) + 1) = ((i + 1 : Nat) : Int) := by unfold wrap64; omega
      simp only [catchmentref02_Same.l0]
      rw [if_pos (by omega), if_pos (by omega), if_pos (by omega), if_neg (by simp), hw]
      exact ih k (i + 1) (by omega) (by omega) (by omega)
/-- has a range a text? -/
def hol (f t s : ByteArray) : Bool := !(Op.bytesLess s.toList f.toList) && ahd s.toList t.toList
theorem hol_iff {f t s : ByteArray} : hol f t s = true ↔ ¬ L s.toList f.toList ∧ (t.toList = [] ∨ L s.toList t.toList) := by
  simp [hol, ahd_iff, L]
/-- how many of the ranges have a text -/
def cnt (s : ByteArray) (l : List S28) : Nat := l.countP (fun r => hol r.f0 r.f1 s)
theorem cnt_pcs (t s : ByteArray) : ∀ (r : List ByteArray) (f : ByteArray), ahd f.toList t.toList = true → cnt s (pcs f t r) = if hol f t s = true then 1 else 0
  | [], f, _ => by
    simp only [pcs, cnt, List.countP_cons, List.countP_nil]
    split <;> simp_all
  | at_ :: r, f, h => by
    simp only [pcs]
    by_cases c : spl f t at_ = true
    · rw [if_pos c]
      have hc : L f.toList at_.toList ∧ ahd at_.toList t.toList = true := by
        unfold spl at c
        rw [h] at c
        simpa [L] using c
      have ih := cnt_pcs t s r at_ hc.2
      have hat : at_.toList ≠ [] := by
        intro e
        rw [e] at hc
        exact L_nil_right hc.1
      unfold cnt at ih ⊢
      rw [List.countP_cons, ih]
      have h1 := @hol_iff f at_ s
      have h2 := @hol_iff at_ t s
      have h3 := @hol_iff f t s
      by_cases hs : L s.toList at_.toList
      · have n2 : ¬ hol at_ t s = true := fun h4 => (h2.1 h4).1 hs
        rw [if_neg n2]
        by_cases hf : L s.toList f.toList
        · rw [if_neg (fun h4 => (h1.1 h4).1 hf), if_neg (fun h4 => (h3.1 h4).1 hf)]
        · have y1 : hol f at_ s = true := h1.2 ⟨hf, .inr hs⟩
          have y3 : hol f t s = true := h3.2 ⟨hf, (ahd_iff.1 hc.2).imp id (fun h5 => L_trans hs h5)⟩
          rw [if_pos y1, if_pos y3]
      · have n1 : ¬ hol f at_ s = true := fun h4 => (h1.1 h4).2.elim hat hs
        have hf : ¬ L s.toList f.toList := fun h5 => hs (L_trans h5 hc.1)
        rw [if_neg n1, Nat.add_zero]
        by_cases ht : t.toList = [] ∨ L s.toList t.toList
        · rw [if_pos (h2.2 ⟨hs, ht⟩), if_pos (h3.2 ⟨hf, ht⟩)]
        · rw [if_neg (fun h4 => ht (h2.1 h4).2), if_neg (fun h4 => ht (h3.1 h4).2)]
    · rw [if_neg c]
      exact cnt_pcs t s r f h
theorem rd_dropS {l : List S28} {i : Nat} (h : i < l.length) : l.drop i = rd_T28 l (i : Int) :: l.drop (i + 1) := by
  rw [List.drop_eq_getElem_cons h]
  unfold rd_T28
  simp [h]
theorem live_ge {k : Nat} (h : 10 ≤ k) : catchmentlaw02_live.f k = some true := by
  obtain ⟨m, rfl⟩ : ∃ m, k = m + 10 := ⟨k - 10, by omega⟩
  exact live_f m
theorem count_loop (s f t : ByteArray) (l : List S28) (hl : l.length ≤ 100) (n : Nat) (hn : n = cnt s l) (hr : ahd f.toList t.toList = true → n = if hol f t s = true then 1 else 0) (hr0 : ahd f.toList t.toList = false → n = 0) (d : Nat) : ∀ (k i c : Nat), i ≤ l.length → l.length - i ≤ d → d + 20 ≤ k → c + cnt s (l.drop i) = n → c ≤ i →
    catchmentlaw02_KeyPieces.l0 k s l (c : Int) (i : Int) f t = some true := by
  induction d with
  | zero =>
    intro k i c hi hd hk hc hci
    obtain ⟨k, rfl⟩ : ∃ m, k = m + 1 := ⟨k - 1, by omega⟩
    have e : i = l.length := by omega
    rw [e, List.drop_length] at hc
    have e2 : c = n := by simpa [cnt] using hc
    simp only [catchmentlaw02_KeyPieces.l0]
    rw [if_neg (by omega), refRight_f, live_ge (by omega)]
    simp only [Option.bind_some, if_true]
    cases ha : ahd f.toList t.toList
    · have := hr0 ha
      rw [if_neg (by decide)]
      have : c = 0 := by omega
      subst this
      rfl
    · have h1 := hr ha
      rw [if_pos rfl, holds_f]
      simp only [Option.bind_some]
      have e3 : (!(Op.bytesLess s.toList f.toList) && ahd s.toList t.toList) = hol f t s := rfl
      rw [e3]
      by_cases hh : hol f t s = true
      · rw [if_pos hh] at h1
        have : c = 1 := by omega
        subst this
        rw [hh]
        rfl
      · rw [if_neg hh] at h1
        have : c = 0 := by omega
        subst this
        have h5 : hol f t s = false := by simpa using hh
        rw [h5]
        rfl
  | succ d ih =>
    intro k i c hi hd hk hc hci
    clear hr hr0 hn
    by_cases e : i = l.length
    · exact ih k i c hi (by clear hc; omega) (by clear hc; omega) hc hci
    · have q1 : (i : Int) < (l.length : Int) := by clear hc; omega
      have q2 : 0 ≤ (i : Int) := by clear hc; omega
      have q3 : i + 1 ≤ l.length := by clear hc; omega
      have q4 : l.length - (i + 1) ≤ d := by clear hc; omega
      obtain ⟨k, rfl⟩ : ∃ m, k = m + 1 := ⟨k - 1, by omega⟩
      have hw : wrap64 ((i : Int) + 1) = ((i + 1 : Nat) : Int) := by unfold wrap64; omega
      have hw2 : wrap64 ((c : Int) + 1) = ((c + 1 : Nat) : Int) := by unfold wrap64; omega
      rw [rd_dropS (by omega : i < l.length)] at hc
      unfold cnt at hc
      rw [List.countP_cons] at hc
      simp only [catchmentlaw02_KeyPieces.l0]
      rw [if_pos q1, if_pos q2, holds_f]
      simp only [Option.bind_some]
      have e3 : (!(Op.bytesLess s.toList (rd_T28 l (i : Int)).f0.toList) && ahd s.toList (rd_T28 l (i : Int)).f1.toList) = hol (rd_T28 l (i : Int)).f0 (rd_T28 l (i : Int)).f1 s := rfl
      rw [e3, hw, hw2]
      by_cases hh : hol (rd_T28 l (i : Int)).f0 (rd_T28 l (i : Int)).f1 s = true
      · rw [if_pos hh] at hc ⊢
        exact ih k (i + 1) (c + 1) q3 q4 (by clear hc; omega) (by unfold cnt; rw [← hc]; clear hc; omega) (by clear hc; omega)
      · rw [if_neg hh] at hc ⊢
        exact ih k (i + 1) c q3 q4 (by clear hc; omega) (by unfold cnt; rw [← hc]; clear hc; omega) (by clear hc; omega)
theorem KeyPieces : catchmentlaw02_KeyPieces.Pure := by
  intro y0 l1 s h0 h1 h2
  obtain ⟨f, t⟩ := y0
  have hm : (mn (l1.length : Int) 30) = ((min l1.length 30 : Nat) : Int) := by unfold mn; split <;> omega
  obtain ⟨K, hK⟩ : ∃ K : Nat, 200 ≤ K := ⟨200, Nat.le_refl _⟩
  refine ⟨K, ?_⟩
  unfold catchmentlaw02_KeyPieces.f
  rw [hm, if_pos (by omega), if_pos (by omega)]
  simp only [Int.toNat_natCast]
  generalize he : l1.take (min l1.length 30) = ends
  have hl : ends.length ≤ 30 := by rw [← he, List.length_take]; omega
  have fin : ∀ l : List S28, l.length ≤ 31 → (ahd f.toList t.toList = true → cnt s l = if hol f t s = true then 1 else 0) → (ahd f.toList t.toList = false → cnt s l = 0) →
      ((catchmentref02_Same.f K l l).bind fun t313 => if t313 = true then catchmentlaw02_KeyPieces.l0 K s l 0 0 f t else none) = some true := by
    intro l hll a1 a2
    unfold catchmentref02_Same.f
    rw [if_pos rfl, show (0 : Int) = ((0 : Nat) : Int) from rfl, same_loop l (by omega) 40 K 0 (by omega) (by omega) (by omega)]
    simp only [Option.bind_some, if_true]
    exact count_loop s f t l (by omega) (cnt s l) rfl a1 a2 40 K 0 0 (by omega) (by omega) (by omega) (by simp) (by omega)
  unfold key_Pieces.f catchmentref02_Pieces.f
  rw [rightRange_f, refRight_f]
  simp only [Option.bind_some]
  cases ha : ahd f.toList t.toList
  · rw [if_neg (by decide), if_neg (by decide)]
    simp only [Option.bind_some]
    exact fin [] (by simp) (fun h => by rw [ha] at h; cases h) (fun _ => rfl)
  · rw [if_pos rfl, if_pos rfl]
    have e1 := pieces_loop ends hl t 30 K 0 [] f (by omega) (by omega) (by omega) (by simp)
    have e2 := refPieces_loop ends hl t 30 K 0 [] f (by omega) (by omega) (by omega) (by simp)
    simp only [Int.natCast_zero, List.nil_append, List.drop_zero] at e1 e2
    have e1' : key_Pieces.l0 K [] ends (ends.length : Int) 0 f t = some (pcs f t ends) := e1
    have e2' : catchmentref02_Pieces.l0 K ends [] 0 f t = some (pcs f t ends) := e2
    rw [e1', e2']
    simp only [Option.bind_some]
    have h3 := pcs_len t ends f
    exact fin (pcs f t ends) (by omega) (fun _ => cnt_pcs t s ends f ha) (fun h => by rw [ha] at h; cases h)
end Go.Proofs.Ytdlhiadekgnieaa.Pure
