/- An arena and the reference's: what is taken. -/
import Derived.Test.YtpfikmchimlneaaArSim
set_option linter.unusedVariables false
set_option linter.unusedSimpArgs false
namespace Go.Proofs.Ytpfikmchimlneaa.Ar
open Go.Proofs.YtpfikmchimlneaaW.Ar
variable {s : St Int} {r : Rf}
theorem Sim.take1 (h : Sim s r) (hlt : s.used < s.most) (x : Int) : ∃ s' r' i, Go.Proofs.YtpfikmchimlneaaW.Ar.take1 s x = some (s', i) ∧ rtake r x = some (r', i, 0) ∧ Sim s' r' ∧ s.has i = false ∧ 1 ≤ i ∧ i ≤ s.most ∧ s'.used = s.used + 1 ∧ s'.most = s.most := by
  have hmost := h.most
  have hused := h.used
  have htop := h.top
  have hle := h.le
  have hm2 := h.m2
  have hcnt := h.cnt
  have hrl : rlen r = r.tk.countP id := rfl
  have hlt64 := h.lt
  have hlv64 := h.lv
  have hnf : ¬ r.most ≤ (rlen r : Int) := by omega
  have hg1 : 0 ≤ s.used ∧ s.used < 1000000 ∧ s.cells.length < 1000000 := by omega
  have hg2 : 0 ≤ r.top ∧ r.top < 64 ∧ r.back.length < 1000000 := by omega
  cases hb : r.back.reverse with
  | nil =>
    have hbk : r.back = [] := by simpa using hb
    have hch := h.ch
    rw [hb] at hch
    have hf : s.free = 0 := hch
    have hlen : r.back.length = 0 := by rw [hbk]; rfl
    have e1 : (r.top + 1).toNat = s.cells.length + 1 := by omega
    have hT : Go.Proofs.YtpfikmchimlneaaW.Ar.take1 s x = some ({ s with cells := s.cells ++ [(x, true, 0)], used := s.used + 1 }, (s.cells.length : Int) + 1) := by
      unfold Go.Proofs.YtpfikmchimlneaaW.Ar.take1
      rw [if_pos hg1, if_neg (by omega)]
    have hR : rtake r x = some (rnew r (s.cells.length + 1) x, (s.cells.length : Int) + 1, 0) := by
      unfold rtake
      rw [if_neg hnf, if_pos hg2, hbk]
      simp only [List.getLast?_nil]
      rw [if_pos (by omega), e1, htop]
    have hcf : r.tk.getD (s.cells.length + 1) false = false := by rw [h.tk _ (by omega), List.getD_eq_getElem?_getD, List.getElem?_eq_none (by omega)]; rfl
    have hct := count_true r.tk (s.cells.length + 1) (by omega) hcf
    refine ⟨_, _, _, hT, hR, ⟨hmost, h.m1, h.m2, ?_, ?_, ?_, ?_, fun k hk => ?_, ?_, fun k hk hkt => ?_, ?_, ?_, ?_, ?_⟩, ?_, by omega, by omega, rfl, rfl⟩
    · simp [rnew]
    · simp only [rnew, rlen]; omega
    · simp [rnew, hlt64]
    · simp [rnew, hlv64]
    · simp only [rnew]
      rw [bset _ _ _ _ (by omega), getD_app]
      by_cases e : k = s.cells.length
      · rw [if_pos (by omega), if_pos e]
      · rw [if_neg (by omega), if_neg e]; exact h.tk k hk
    · simp only [rnew]
      rw [bset _ _ _ _ (by omega), if_neg (by omega)]; exact h.tk0
    · simp only [List.length_append, List.length_singleton] at hk
      simp only [rnew]
      rw [getD_app] at hkt ⊢
      rw [iset _ _ _ _ (by omega)]
      by_cases e : k = s.cells.length
      · rw [if_pos (by omega), if_pos e]
      · rw [if_neg e] at hkt
        rw [if_neg (by omega), if_neg e]
        exact h.vl k (by omega) hkt
    · simp only [rnew, hbk]
      exact hf
    · simp only [rnew, hbk]
      exact List.nodup_nil
    · simp only [rnew, rlen, List.length_append, List.length_singleton, hlen]; omega
    · simp only [List.length_append, List.length_singleton]; omega
    · unfold St.has
      rw [decide_eq_false (show ¬ ((s.cells.length : Int) + 1 ≤ (s.cells.length : Int)) by omega)]
      simp
  | cons b bs =>
    have hbk : r.back = bs.reverse ++ [b] := by
      have := congrArg List.reverse hb
      simpa using this
    have hch := h.ch
    rw [hb] at hch
    obtain ⟨hf, j, hj, hjl, hjt, hrest⟩ := hch
    have hlen : r.back.length = bs.length + 1 := by rw [hbk]; simp
    have e0 : (s.free - 1).toNat = j := by omega
    have e1 : b.toNat = j + 1 := by omega
    have hcell : s.cells[j] = s.cells.getD j z0 := by rw [List.getD_eq_getElem?_getD, List.getElem?_eq_getElem hjl]; rfl
    have hT : Go.Proofs.YtpfikmchimlneaaW.Ar.take1 s x = some ({ s with cells := s.cells.set j (x, true, 0), free := (s.cells.getD j z0).2.2, used := s.used + 1 }, b) := by
      unfold Go.Proofs.YtpfikmchimlneaaW.Ar.take1
      rw [if_pos hg1, if_pos (by omega), e0, List.getElem?_eq_getElem hjl, hcell, hf]
    have hR : rtake r x = some (rold r bs.reverse (j + 1) x, b, 0) := by
      unfold rtake
      rw [if_neg hnf, if_pos hg2, hbk]
      simp only [List.getLast?_append, List.getLast?_singleton, Option.some_or, List.dropLast_concat]
      rw [if_pos (by omega), e1]
    have hcf : r.tk.getD (j + 1) false = false := by rw [h.tk _ (by omega)]; exact hjt
    have hct := count_true r.tk (j + 1) (by omega) hcf
    have hnd := h.nd
    rw [hbk, List.nodup_append] at hnd
    have hnb : ((j : Int) + 1) ∉ bs := fun hm => hnd.2.2 b (List.mem_reverse.2 (by rw [hj]; exact hm)) b (List.mem_singleton.2 rfl) rfl
    refine ⟨_, _, _, hT, hR, ⟨hmost, h.m1, h.m2, ?_, ?_, ?_, ?_, fun k hk => ?_, ?_, fun k hk hkt => ?_, ?_, ?_, ?_, ?_⟩, ?_, by omega, by omega, rfl, rfl⟩
    · simp only [rold, List.length_set]; exact htop
    · simp only [rold, rlen]; omega
    · simp [rold, hlt64]
    · simp [rold, hlv64]
    · simp only [rold]
      rw [bset _ _ _ _ (by omega), getD_set _ _ _ _ hjl]
      by_cases e : j = k
      · rw [if_pos (by omega), if_pos e]
      · rw [if_neg (by omega), if_neg e]; exact h.tk k hk
    · simp only [rold]
      rw [bset _ _ _ _ (by omega), if_neg (by omega)]; exact h.tk0
    · simp only [List.length_set] at hk
      simp only [rold]
      rw [getD_set _ _ _ _ hjl] at hkt ⊢
      rw [iset _ _ _ _ (by omega)]
      by_cases e : j = k
      · rw [if_pos (by omega), if_pos e]
      · rw [if_neg e] at hkt
        rw [if_neg (by omega), if_neg e]
        exact h.vl k hk hkt
    · simp only [rold, List.reverse_reverse]
      exact chain_set hjl _ _ hrest hnb
    · simp only [rold]
      exact hnd.1
    · simp only [rold, rlen, List.length_reverse, List.length_set]; omega
    · simp only [List.length_set]; exact hle
    · rw [h.has]
      unfold rhas
      rw [e1, hcf]
      simp
theorem Sim.take (h : Sim s r) (x : Int) : ∃ s' r' i c, aTake s x = some (s', i, c) ∧ rtake r x = some (r', i, c) ∧ Sim s' r' ∧ s'.most = s.most := by
  by_cases h1 : s.used = s.most
  · refine ⟨s, r, 0, 9, by unfold aTake; rw [if_pos h1], ?_, h, rfl⟩
    unfold rtake
    rw [if_pos (by have := h.used; have := h.most; omega)]
  · obtain ⟨s', r', i, h2, h3, h4, _, _, _, _, h9⟩ := h.take1 (by have := h.bd.u1; omega) x
    exact ⟨s', r', i, 0, by unfold aTake; rw [if_neg h1, h2]; rfl, h3, h4, h9⟩
theorem Sim.manyN (x : Int) : ∀ (n : Nat) {s : St Int} {r : Rf}, Sim s r → (n : Int) ≤ s.most - s.used → ∃ s' r' l, many n s x = some (s', l) ∧ rmany n r x = some (r', l) ∧ Sim s' r' ∧ l.length = n ∧ s'.most = s.most
  | 0, s, r, h, _ => ⟨s, r, [], rfl, rfl, h, rfl, rfl⟩
  | n + 1, s, r, h, hn => by
    obtain ⟨s1, r1, i, h2, h3, h4, _, _, _, h5, h6⟩ := h.take1 (by omega) x
    obtain ⟨s2, r2, l, k1, k2, k3, k4, k5⟩ := Sim.manyN x n h4 (by omega)
    exact ⟨s2, r2, i :: l, by simp [many, h2, k1], by simp [rmany, h3, k2], k3, by simp [k4], by rw [k5, h6]⟩
theorem Sim.many (h : Sim s r) (n x : Int) : ∃ s' r' l c, aMany s n x = some (s', l, c) ∧ rManyF r n x = some (r', l, c) ∧ Sim s' r' ∧ l.length < 1000000 ∧ s'.most = s.most := by
  unfold aMany rManyF
  have h1 := h.used
  have h2 := h.most
  by_cases hn : n < 0
  · rw [if_pos hn, if_pos hn]
    exact ⟨_, _, _, _, rfl, rfl, h, by simp, rfl⟩
  · rw [if_neg hn, if_neg hn]
    by_cases hf : s.most - s.used < n
    · rw [if_pos hf, if_pos (by omega)]
      exact ⟨_, _, _, _, rfl, rfl, h, by simp, rfl⟩
    · rw [if_neg hf, if_neg (by omega)]
      obtain ⟨s2, r2, l, k1, k2, k3, k4, k5⟩ := Sim.manyN x n.toNat h (by omega)
      rw [k1, k2]
      have := h.bd.u0
      have := h.m2
      exact ⟨_, _, _, _, rfl, rfl, k3, by show l.length < 1000000; omega, k5⟩
end Go.Proofs.Ytpfikmchimlneaa.Ar
