/- For every row of deeds the law VlockAlone answers true: no condition beyond what a Go value of these types can be. -/
import Derived.Test.YtdlhiadekgnieaaQ1x60
import Derived.Test.YtdlhiadekgnieaaVlockStep
set_option linter.unusedVariables false
set_option linter.unusedSimpArgs false
namespace Go.Proofs.Ytdlhiadekgnieaa.Pure
open Go.RowKit Go.Proofs.Ytdlhiadekgnieaa.Q1 Go.Proofs.Ytdlhiadekgnieaa.VlockSpec Go.Proofs.YtdlhiadekgnieaaW.PrintWords Go.Proofs.YtdlhiadekgnieaaW.PrintLast Go.Proofs.YtdlhiadekgnieaaW.Ord
theorem alone_loop (xs : List S57) (d : Nat) : ∀ (k : Nat) (i v o : Int) (g : Bool), Rt v o g → 0 ≤ i → i ≤ 100 → 101 - i ≤ d → 2 * d + 20 ≤ k → catchmentlaw07_VlockAlone.l0 k xs o i v o g = some true := by
  induction d with
  | zero => intro k i v o g _ h0 h1 h2 _; omega
  | succ d ih =>
    intro k i v o g hr h0 h1 h2 hk
    obtain ⟨k, rfl⟩ : ∃ m, k = m + 1 + 1 := ⟨k - 2, by omega⟩
    have hw : i < 100 → wrap64 (i + 1) = i + 1 := fun h => by unfold wrap64; omega
    simp only [catchmentlaw07_VlockAlone.l0]
    by_cases hi : i < (xs.length : Int)
    · rw [if_pos hi]
      by_cases hj : i < 100
      · rw [decide_eq_true hj]
        simp only [catchmentlaw07_VlockAlone.j1]
        rw [if_pos trivial, if_pos h0, if_pos hi, step_ge (by omega)]
        simp only [Option.bind_some]
        have hs := stp_right (rd_T57 xs i).f0 (rd_T57 xs i).f1 hr
        generalize hx : stp v o g (rd_T57 xs i).f0 (rd_T57 xs i).f1 = x at hs ⊢
        obtain ⟨v', o', g', done⟩ := x
        simp only at hs ⊢
        obtain ⟨hr', hno, hyes⟩ := hs
        have go : ∀ h : Int, h = o' → catchmentlaw07_VlockAlone.l0 k xs h (wrap64 (i + 1)) v' o' g' = some true := by
          rintro h rfl
          rw [hw hj]
          exact ih k (i + 1) v' _ g' hr' (by omega) (by omega) (by omega) (by omega)
        cases done
        · obtain ⟨rfl, rfl, rfl⟩ := hno rfl
          rw [if_neg (by decide), if_pos rfl, right_f hr']
          simp only [Option.bind_some, if_true]
          exact go _ rfl
        · obtain ⟨d1, d2, z0, z1, z4, z5, z6⟩ := hyes rfl
          rw [if_pos rfl]
          by_cases c0 : (rd_T57 xs i).f0 = 0
          · obtain ⟨a1, a2⟩ := z0 c0
            rw [if_pos c0, if_pos a1, if_pos a2, right_f hr']
            simp only [Option.bind_some, if_true]
            exact go _ a2.symm
          · rw [if_neg c0]
            by_cases c4 : (rd_T57 xs i).f0 < 4
            · obtain ⟨a1, a2⟩ := z1 (by omega) c4
              rw [if_pos c4, if_pos a1, if_pos a2, right_f hr']
              simp only [Option.bind_some, if_true]
              exact go _ a2.symm
            · have a2 := z4 (by omega)
              rw [if_neg c4, if_pos a2, right_f hr']
              simp only [Option.bind_some, if_true]
              exact go _ a2.symm
      · rw [decide_eq_false hj]
        simp only [catchmentlaw07_VlockAlone.j1]
        rw [if_neg (by decide), live_ge (by omega)]
        rfl
    · rw [if_neg hi]
      simp only [catchmentlaw07_VlockAlone.j1]
      rw [if_neg (by decide), live_ge (by omega)]
      rfl
theorem VlockAlone : catchmentlaw07_VlockAlone.Pure := by
  intro l0 _
  exact ⟨2 * 101 + 20, alone_loop l0 101 _ 0 0 0 false ⟨by omega, by omega, by omega, by omega, fun _ => rfl⟩ (by omega) (by omega) (by omega) (by omega)⟩
end Go.Proofs.Ytdlhiadekgnieaa.Pure
