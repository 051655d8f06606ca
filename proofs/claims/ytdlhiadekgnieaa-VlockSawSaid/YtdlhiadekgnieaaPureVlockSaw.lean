/- For every row of deeds and every number the law VlockSaw answers true: no condition beyond what a Go value of these types can be. -/
import Derived.Test.YtdlhiadekgnieaaQ1x51
import Derived.Test.YtdlhiadekgnieaaVlockStep
set_option linter.unusedVariables false
set_option linter.unusedSimpArgs false
namespace Go.Proofs.Ytdlhiadekgnieaa.Pure
open Go.RowKit Go.Proofs.Ytdlhiadekgnieaa.Q1 Go.Proofs.Ytdlhiadekgnieaa.VlockSpec Go.Proofs.YtdlhiadekgnieaaW.PrintWords Go.Proofs.YtdlhiadekgnieaaW.PrintLast Go.Proofs.YtdlhiadekgnieaaW.Ord
theorem saw_behind (xs : List S57) (hl : xs.length ≤ 100) (ver : Int) (d : Nat) : ∀ (k : Nat) (i v o : Int) (g ch : Bool), Rt v o g → ver ≤ v → ch = decide (v > ver) → (ch = false → g = false) → 0 ≤ i → (xs.length : Int) - i < d → 3 * d + 20 ≤ k →
    catchmentlaw07_VlockSaw.l1 k xs ver ch i v o g = some true := by
  induction d with
  | zero =>
    intro k i v o g ch hr h1 h2 h3 h4 h5 hk
    obtain ⟨k, rfl⟩ : ∃ m, k = m + 1 := ⟨k - 1, by omega⟩
    simp only [catchmentlaw07_VlockSaw.l1]
    rw [if_neg (by omega), live_ge (by omega)]
    rfl
  | succ d ih =>
    intro k i v o g ch hr h1 h2 h3 h4 h5 hk
    obtain ⟨k, rfl⟩ : ∃ m, k = m + 1 + 1 + 1 := ⟨k - 3, by omega⟩
    simp only [catchmentlaw07_VlockSaw.l1]
    by_cases hi : i < (xs.length : Int)
    · have hw : wrap64 (i + 1) = i + 1 := by unfold wrap64; omega
      rw [if_pos hi, if_pos h4, step_ge (by omega)]
      simp only [Option.bind_some]
      have hs := stp_right (rd_T57 xs i).f0 (rd_T57 xs i).f1 hr
      generalize hx : stp v o g (rd_T57 xs i).f0 (rd_T57 xs i).f1 = x at hs ⊢
      obtain ⟨v', o', g', done⟩ := x
      simp only at hs ⊢
      obtain ⟨hr', hno, hyes⟩ := hs
      have hv : v ≤ v' := by
        cases done
        · have := (hno rfl).1; omega
        · obtain ⟨d1, d2, z0, z1, z4, z5, z6⟩ := hyes rfl
          by_cases h : (rd_T57 xs i).f0 < 2
          · have := (z5 h).1; omega
          · have := z6 (by omega); omega
      have join : ∀ c : Bool, c = decide (v' > ver) → (c = false → g' = false) → catchmentlaw07_VlockSaw.j2 (k + 1 + 1) xs ver c i v o g v' o' g' = some true := by
        intro c hc hg
        simp only [catchmentlaw07_VlockSaw.j2]
        rw [if_neg (by omega), ← hc]
        simp only [catchmentlaw07_VlockSaw.j3]
        rw [if_neg (by cases c <;> decide), valid_f]
        simp only [Option.bind_some]
        rw [hw]
        have go := ih k (i + 1) v' o' g' c hr' (by omega) hc hg (by omega) (by omega) (by omega)
        cases c
        · have e : v' = ver := by
            have := of_decide_eq_false hc.symm
            omega
          have eg := hg rfl
          subst eg
          rw [if_neg (by decide)]
          have e2 : ((val v' o' false ver == 0) != (o' == 0)) = false := by
            unfold val
            rw [if_neg (by decide), if_pos e]
            by_cases h : o' = 0 <;> simp [h]
          rw [e2, if_neg (by decide)]
          exact go
        · have e : ¬ v' = ver := by
            have := of_decide_eq_true hc.symm
            omega
          rw [if_pos rfl]
          have e2 : ((val v' o' g' ver == 0) != false) = false := by
            unfold val
            cases g'
            · rw [if_neg (by decide), if_neg e]; rfl
            · rw [if_pos rfl]; rfl
          rw [e2, if_neg (by decide)]
          exact go
      by_cases hc : ch = true
      · rw [if_pos hc]
        have h6 : v > ver := of_decide_eq_true (h2.symm.trans hc)
        exact join true (decide_eq_true (by omega)).symm (fun h => by cases h)
      · rw [if_neg hc]
        have hc' : ch = false := by cases ch <;> simp_all
        have h6 : v = ver := by
          have := of_decide_eq_false (h2.symm.trans hc')
          omega
        cases done
        · obtain ⟨rfl, rfl, rfl⟩ := hno rfl
          rw [if_neg (by decide)]
          exact join false (decide_eq_false (by omega)).symm (fun _ => h3 hc')
        · obtain ⟨d1, d2, z0, z1, z4, z5, z6⟩ := hyes rfl
          rw [if_pos rfl]
          by_cases h : (rd_T57 xs i).f0 < 2
          · obtain ⟨e1, e2⟩ := z5 h
            rw [decide_eq_false (by omega)]
            exact join false (decide_eq_false (by omega)).symm (fun _ => by rw [e2]; exact h3 hc')
          · have e1 := z6 (by omega)
            rw [decide_eq_true (by omega)]
            exact join true (decide_eq_true (by omega)).symm (fun h => by cases h)
    · rw [if_neg hi, live_ge (by omega)]
      rfl
theorem saw_ahead (xs : List S57) (hl : xs.length ≤ 100) (n : Int) (hn : n ≤ xs.length) (d : Nat) : ∀ (k : Nat) (i v o : Int) (g : Bool), Rt v o g → 0 ≤ i → i ≤ n → n - i < d → d + 400 ≤ k →
    catchmentlaw07_VlockSaw.l0 k xs n i v o g = some true := by
  induction d with
  | zero => intro k i v o g _ _ _ h; omega
  | succ d ih =>
    intro k i v o g hr h0 h1 h2 hk
    obtain ⟨k, rfl⟩ : ∃ m, k = m + 1 := ⟨k - 1, by omega⟩
    simp only [catchmentlaw07_VlockSaw.l0]
    by_cases hi : i < n
    · have hw : wrap64 (i + 1) = i + 1 := by unfold wrap64; omega
      rw [if_pos hi, if_pos h0, if_pos (by omega), step_ge (by omega)]
      simp only [Option.bind_some]
      rw [hw]
      exact ih k (i + 1) _ _ _ (stp_right _ _ hr).1 (by omega) (by omega) (by omega) (by omega)
    · rw [if_neg hi]
      unfold vlock_Begin.f
      cases g
      · rw [if_neg (by decide)]
        by_cases ho : o = 0
        · rw [if_pos ho]
          simp only [Option.bind_some, if_true]
          exact saw_behind xs hl v 101 k n v o false false hr (by omega) (decide_eq_false (by omega)).symm (fun _ => rfl) (by omega) (by omega) (by omega)
        · rw [if_neg ho, live_ge (by omega)]
          simp [ho]
      · rw [if_pos rfl, live_ge (by omega)]
        simp
theorem VlockSaw : catchmentlaw07_VlockSaw.Pure := by
  intro l0 a1 h0 h1
  have hm : (mn (l0.length : Int) 100) = ((min l0.length 100 : Nat) : Int) := by unfold mn; split <;> omega
  have ha : 0 ≤ a1 ∧ a1 ≤ 255 := by simpa [Lit.wf, IntKind.min, IntKind.max, IntKind.signed, IntKind.bits] using h1
  obtain ⟨K, hK⟩ : ∃ K : Nat, 800 ≤ K := ⟨800, Nat.le_refl _⟩
  refine ⟨K, ?_⟩
  unfold catchmentlaw07_VlockSaw.f
  rw [hm, if_pos (by omega), if_pos (by omega)]
  rw [Option.bind_some, Int.toNat_natCast]
  have hlen : (l0.take (min l0.length 100)).length = min l0.length 100 := by simp
  have hw : wrap64 (((l0.take (min l0.length 100)).length : Int) + 1) = ((min l0.length 100 : Nat) : Int) + 1 := by rw [hlen]; unfold wrap64; omega
  rw [hw, if_neg (by omega)]
  have hw2 : wrap64 a1 = a1 := by unfold wrap64; omega
  rw [hw2, Int.tmod_eq_emod_of_nonneg ha.1]
  have hmod0 : 0 ≤ a1 % (((min l0.length 100 : Nat) : Int) + 1) := Int.emod_nonneg _ (by omega)
  have hmod1 : a1 % (((min l0.length 100 : Nat) : Int) + 1) < ((min l0.length 100 : Nat) : Int) + 1 := Int.emod_lt_of_pos _ (by omega)
  exact saw_ahead _ (by omega) _ (by rw [hlen]; omega) 102 K 0 0 0 false ⟨by omega, by omega, by omega, by omega, fun _ => rfl⟩ (by omega) hmod0 (by omega) (by omega)
end Go.Proofs.Ytdlhiadekgnieaa.Pure
