/- An arena and the reference's: what holds between them, and that each deed keeps it. -/
import Derived.Test.YtpfikmchimlneaaArStep4
set_option linter.unusedVariables false
set_option linter.unusedSimpArgs false
namespace Go.Proofs.Ytpfikmchimlneaa.Ar
open Go.Proofs.YtpfikmchimlneaaW.Ar
abbrev z0 : Int × Bool × Int := (0, false, 0)
def Chain (cells : List (Int × Bool × Int)) : Int → List Int → Prop
  | f, [] => f = 0
  | f, b :: bs => f = b ∧ ∃ j : Nat, b = (j : Int) + 1 ∧ j < cells.length ∧ (cells.getD j z0).2.1 = false ∧ Chain cells (cells.getD j z0).2.2 bs
structure Sim (s : St Int) (r : Rf) : Prop where
  most : r.most = s.most
  m1 : 1 ≤ s.most
  m2 : s.most ≤ 60
  top : r.top = (s.cells.length : Int)
  used : s.used = (rlen r : Int)
  lt : r.tk.length = 64
  lv : r.vl.length = 64
  tk : ∀ j, j < 63 → r.tk.getD (j + 1) false = (s.cells.getD j z0).2.1
  tk0 : r.tk.getD 0 false = false
  vl : ∀ j, j < s.cells.length → (s.cells.getD j z0).2.1 = true → r.vl.getD (j + 1) 0 = (s.cells.getD j z0).1
  ch : Chain s.cells s.free r.back.reverse
  nd : r.back.Nodup
  cnt : rlen r + r.back.length = s.cells.length
  le : (s.cells.length : Int) ≤ s.most
variable {s : St Int} {r : Rf}
theorem getD_set (l : List (Int × Bool × Int)) (i j : Nat) (x : Int × Bool × Int) (hi : i < l.length) : (l.set i x).getD j z0 = if i = j then x else l.getD j z0 := by
  rw [List.getD_eq_getElem?_getD, List.getElem?_set]
  by_cases h : i = j
  · subst h
    rw [if_pos rfl, if_pos hi, if_pos rfl]
    rfl
  · rw [if_neg h, if_neg h, List.getD_eq_getElem?_getD]
theorem getD_app (l : List (Int × Bool × Int)) (j : Nat) (x : Int × Bool × Int) : (l ++ [x]).getD j z0 = if j = l.length then x else l.getD j z0 := by
  rw [List.getD_eq_getElem?_getD, List.getD_eq_getElem?_getD]
  by_cases h : j < l.length
  · rw [if_neg (by omega), List.getElem?_append_left h]
  · by_cases h2 : j = l.length
    · subst h2
      rw [if_pos rfl]
      simp
    · rw [if_neg h2, List.getElem?_eq_none (by simp; omega), List.getElem?_eq_none (by omega)]
theorem bset (l : List Bool) (i j : Nat) (b : Bool) (hi : i < l.length) : (l.set i b).getD j false = if i = j then b else l.getD j false := by
  rw [List.getD_eq_getElem?_getD, List.getElem?_set]
  by_cases h : i = j
  · subst h
    rw [if_pos rfl, if_pos hi, if_pos rfl]
    rfl
  · rw [if_neg h, if_neg h, List.getD_eq_getElem?_getD]
theorem iset (l : List Int) (i j : Nat) (b : Int) (hi : i < l.length) : (l.set i b).getD j 0 = if i = j then b else l.getD j 0 := by
  rw [List.getD_eq_getElem?_getD, List.getElem?_set]
  by_cases h : i = j
  · subst h
    rw [if_pos rfl, if_pos hi, if_pos rfl]
    rfl
  · rw [if_neg h, if_neg h, List.getD_eq_getElem?_getD]
theorem chain_set {cells : List (Int × Bool × Int)} {x : Int × Bool × Int} {i : Nat} (hi : i < cells.length) : ∀ (l : List Int) (f : Int), Chain cells f l → ((i : Int) + 1) ∉ l → Chain (cells.set i x) f l
  | [], f, h, _ => h
  | b :: bs, f, h, hn => by
    obtain ⟨h1, j, h2, h3, h4, h5⟩ := h
    have hne : i ≠ j := fun e => hn (by rw [e, ← h2]; exact List.mem_cons_self)
    refine ⟨h1, j, h2, by rw [List.length_set]; exact h3, ?_, ?_⟩
    · rw [getD_set _ _ _ _ hi, if_neg hne]; exact h4
    · rw [getD_set _ _ _ _ hi, if_neg hne]
      exact chain_set hi bs _ h5 (fun hm => hn (List.mem_cons_of_mem _ hm))
theorem chain_app {cells : List (Int × Bool × Int)} {x : Int × Bool × Int} : ∀ (l : List Int) (f : Int), Chain cells f l → Chain (cells ++ [x]) f l
  | [], f, h => h
  | b :: bs, f, h => by
    obtain ⟨h1, j, h2, h3, h4, h5⟩ := h
    refine ⟨h1, j, h2, by simp; omega, ?_, ?_⟩
    · rw [getD_app, if_neg (by omega)]; exact h4
    · rw [getD_app, if_neg (by omega)]; exact chain_app bs _ h5
theorem chain_mem {cells : List (Int × Bool × Int)} : ∀ (l : List Int) (f : Int), Chain cells f l → ∀ b ∈ l, ∃ j : Nat, b = (j : Int) + 1 ∧ j < cells.length ∧ (cells.getD j z0).2.1 = false
  | [], f, h, b, hb => by cases hb
  | b0 :: bs, f, h, b, hb => by
    obtain ⟨h1, j, h2, h3, h4, h5⟩ := h
    rcases List.mem_cons.1 hb with rfl | hb
    · exact ⟨j, h2, h3, h4⟩
    · exact chain_mem bs _ h5 b hb
theorem count_true (l : List Bool) (i : Nat) (hi : i < l.length) (h : l.getD i false = false) : (l.set i true).countP id = l.countP id + 1 := by
  rw [List.countP_set hi]
  have h2 : l[i] = false := by rw [List.getD_eq_getElem?_getD, List.getElem?_eq_getElem hi] at h; simpa using h
  simp [h2]
theorem count_false (l : List Bool) (i : Nat) (hi : i < l.length) (h : l.getD i false = true) : (l.set i false).countP id + 1 = l.countP id := by
  rw [List.countP_set hi]
  have h2 : l[i] = true := by rw [List.getD_eq_getElem?_getD, List.getElem?_eq_getElem hi] at h; simpa using h
  have h3 : 0 < l.countP id := List.countP_pos_iff.2 ⟨true, by rw [← h2]; exact List.getElem_mem hi, rfl⟩
  simp [h2]
  omega
theorem Sim.bd (h : Sim s r) : Bd s := by
  have h1 := h.used
  have h2 := h.cnt
  have h3 := h.le
  have h4 := h.m2
  exact ⟨by omega, by omega, by omega, by omega⟩
theorem Sim.has (h : Sim s r) (i : Int) : s.has i = rhas r i := by
  have h3 := h.le
  have h4 := h.m2
  unfold St.has rhas
  by_cases h1 : 1 ≤ i
  · by_cases h2 : i < 64
    · have ht := h.tk (i - 1).toNat (by omega)
      rw [show (i - 1).toNat + 1 = i.toNat by omega] at ht
      rw [decide_eq_true h1, decide_eq_true h2, ht]
      by_cases h5 : i ≤ (s.cells.length : Int)
      · have h6 : (i - 1).toNat < s.cells.length := by omega
        rw [decide_eq_true h5, List.getElem?_eq_getElem h6, List.getD_eq_getElem?_getD, List.getElem?_eq_getElem h6]
        rfl
      · rw [decide_eq_false h5, List.getD_eq_getElem?_getD, List.getElem?_eq_none (by omega)]
        rfl
    · rw [decide_eq_true h1, decide_eq_false h2, decide_eq_false (show ¬ i ≤ (s.cells.length : Int) by omega)]
      rfl
  · rw [decide_eq_false h1]
    rfl
theorem Sim.get (h : Sim s r) (i : Int) : get s i = if rhas r i = true then (r.vl.getD i.toNat 0, true) else (0, false) := by
  unfold Ar.get
  rw [h.has i]
  by_cases h1 : rhas r i = true
  · rw [if_pos h1, if_pos h1]
    obtain ⟨j, hj, hlt, ht⟩ := has_yes i ((h.has i).trans h1)
    subst hj
    have := h.vl j hlt ht
    rw [show ((j : Int) + 1 - 1).toNat = j by omega, show ((j : Int) + 1).toNat = j + 1 by omega, this]
  · rw [if_neg h1, if_neg h1]
theorem Sim.set (h : Sim s r) (i x : Int) (hi : rhas r i = true) : Sim (setv s i x) (rset r i x) := by
  obtain ⟨j, hj, hlt, ht⟩ := has_yes i ((h.has i).trans hi)
  subst hj
  have h3 := h.le
  have h4 := h.m2
  have e1 : ((j : Int) + 1 - 1).toNat = j := by omega
  have e2 : ((j : Int) + 1).toNat = j + 1 := by omega
  unfold setv rset
  rw [e1, e2]
  refine ⟨h.most, h.m1, h.m2, by simp [h.top], h.used, h.lt, by simp [h.lv], fun k hk => ?_, h.tk0, fun k hk hkt => ?_, ?_, h.nd, by simp [h.cnt.symm, rlen], by simp [h.le]⟩
  · rw [h.tk k hk, getD_set _ _ _ _ hlt]
    split
    · rename_i e; subst e; rfl
    · rfl
  · simp only [List.length_set] at hk
    simp only [getD_set _ _ _ _ hlt] at hkt ⊢
    rw [iset _ _ _ _ (by rw [h.lv]; omega)]
    by_cases e : j = k
    · subst e
      simp
    · rw [if_neg e] at hkt ⊢
      rw [if_neg (by omega)]
      exact h.vl k hk hkt
  · refine chain_setv hlt x _ _ h.ch
where
  chain_setv {cells : List (Int × Bool × Int)} {j : Nat} (hj : j < cells.length) (x : Int) : ∀ (l : List Int) (f : Int), Chain cells f l → Chain (cells.set j (x, (cells.getD j z0).2)) f l
    | [], f, h => h
    | b :: bs, f, h => by
      obtain ⟨h1, k, h2, h3, h4, h5⟩ := h
      have e : ((cells.set j (x, (cells.getD j z0).2)).getD k z0).2 = (cells.getD k z0).2 := by
        rw [getD_set _ _ _ _ hj]
        split
        · rename_i e; subst e; rfl
        · rfl
      refine ⟨h1, k, h2, by rw [List.length_set]; exact h3, by rw [e]; exact h4, ?_⟩
      rw [e]
      exact chain_setv hj x bs _ h5
theorem Sim.give (h : Sim s r) (i : Int) (hi : rhas r i = true) : 0 < s.used ∧ r.back.length < 1000000 ∧ Sim (give s i) (rgive r i) := by
  obtain ⟨j, hj, hlt, ht⟩ := has_yes i ((h.has i).trans hi)
  subst hj
  have h3 := h.le
  have h4 := h.m2
  have e1 : ((j : Int) + 1 - 1).toNat = j := by omega
  have e2 : ((j : Int) + 1).toNat = j + 1 := by omega
  have htk : r.tk.getD (j + 1) false = true := by rw [h.tk j (by omega)]; exact ht
  have hcf := count_false r.tk (j + 1) (by rw [h.lt]; omega) htk
  have hcnt := h.cnt
  have hused := h.used
  have hrl : rlen r = r.tk.countP id := rfl
  refine ⟨by omega, by omega, ?_⟩
  unfold Ar.give rgive
  rw [e1, e2]
  have hnb : ((j : Int) + 1) ∉ r.back := by
    intro hm
    obtain ⟨k, hk, _, hkf⟩ := chain_mem _ _ h.ch _ (List.mem_reverse.2 hm)
    have : j = k := by omega
    subst this
    rw [ht] at hkf
    cases hkf
  refine ⟨h.most, h.m1, h.m2, by simp [h.top], ?_, by simp [h.lt], by simp [h.lv], fun k hk => ?_, ?_, fun k hk hkt => ?_, ?_, ?_, ?_, by simp [h.le]⟩
  · simp only [rlen]; omega
  · rw [bset _ _ _ _ (by rw [h.lt]; omega), getD_set _ _ _ _ hlt]
    by_cases e : j = k
    · rw [if_pos (by omega), if_pos e]
    · rw [if_neg (by omega), if_neg e]; exact h.tk k hk
  · rw [bset _ _ _ _ (by rw [h.lt]; omega), if_neg (by omega)]; exact h.tk0
  · simp only [List.length_set] at hk
    simp only [getD_set _ _ _ _ hlt] at hkt ⊢
    rw [iset _ _ _ _ (by rw [h.lv]; omega)]
    by_cases e : j = k
    · rw [if_pos e] at hkt
      cases hkt
    · rw [if_neg e] at hkt ⊢
      rw [if_neg (by omega)]
      exact h.vl k hk hkt
  · rw [List.reverse_append]
    refine ⟨rfl, j, rfl, by rw [List.length_set]; exact hlt, by rw [getD_set _ _ _ _ hlt, if_pos rfl], ?_⟩
    rw [getD_set _ _ _ _ hlt, if_pos rfl]
    exact chain_set hlt _ _ h.ch (fun hm => hnb (List.mem_reverse.1 hm))
  · rw [List.nodup_append]
    exact ⟨h.nd, by simp, fun a ha b hb e => by rw [List.mem_singleton] at hb; subst hb; subst e; exact hnb ha⟩
  · simp only [rlen, List.length_append, List.length_singleton, List.length_set]; omega
end Go.Proofs.Ytpfikmchimlneaa.Ar
