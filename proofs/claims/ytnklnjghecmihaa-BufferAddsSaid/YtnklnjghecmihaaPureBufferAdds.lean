/- For all messages and others the law BufferAdds answers true: no condition beyond what a Go value of these types can be. -/
import Derived.Test.YtnklnjghecmihaaL2x48
import Derived.Test.YtnklnjghecmihaaL2SBufSpec
import Derived.Test.YtnklnjghecmihaaL2SBufAddSpec
set_option linter.unusedVariables false
set_option linter.unusedSimpArgs false
namespace Go.Proofs.Ytnklnjghecmihaa.Pure
open Go.RowKit Go.Proofs.Ytnklnjghecmihaa.L2 Go.Proofs.Ytnklnjghecmihaa.SortSpec Go.Proofs.YtnklnjghecmihaaW.PrintWords Go.Proofs.YtnklnjghecmihaaW.PrintLast Go.Proofs.YtnklnjghecmihaaW.PrintMore Go.Proofs.YtnklnjghecmihaaW.Mine Go.Proofs.YtnklnjghecmihaaW.Ord
theorem alive_90 : catchmentlaw12_live.f 90 = some true := by decide +kernel
theorem alive_ge {k : Nat} (h : 90 ≤ k) : catchmentlaw12_live.f k = some true := by
  obtain ⟨m, rfl⟩ : ∃ m, k = 90 + m := ⟨k - 90, by omega⟩
  induction m with
  | zero => exact alive_90
  | succ m ih => exact catchmentlaw12_live.mono (90 + m) _ (ih (by omega))
theorem adds_loop (x : List S46) (hl : x.length < 100000) (hs : Sd StbSpec.lt x) : ∀ (d i k : Nat), d = x.length - i → 1 ≤ i → d + 90 < k → catchmentlaw12_BufferAdds.l0 k x (i : Int) = some true
  | d, i, 0, _, _, h => absurd h (by omega)
  | d, i, k + 1, hd, hi, hk => by
    by_cases h : i < x.length
    · have e1 : rd_T46 x (i : Int) = x[i] := by
        unfold rd_T46
        rw [Int.toNat_natCast, List.getD_eq_getElem?_getD, List.getElem?_eq_getElem h, Option.getD_some]
      have e2 : rd_T46 x ((i - 1 : Nat) : Int) = x[i - 1] := by
        unfold rd_T46
        rw [Int.toNat_natCast, List.getD_eq_getElem?_getD, List.getElem?_eq_getElem (by omega), Option.getD_some]
      rw [catchmentlaw12_BufferAdds.l0, if_pos (by omega), if_pos (by omega), StbSpec.pred_nat i (by omega) (by omega), if_pos (by omega), if_pos (by omega), e1, e2, BufAdd.ahead_f, Option.bind_some, StbSpec.Sd_at hs (i - 1) i (by omega) h, if_neg (by decide), StbSpec.succ_nat i (by omega)]
      exact adds_loop x hl hs (d - 1) (i + 1) k (by omega) (by omega) (by omega)
    · rw [catchmentlaw12_BufferAdds.l0, if_neg (by omega), alive_ge (by omega)]
      rfl
theorem BufferAdds : catchmentlaw12_BufferAdds.Pure := by
  intro l more hl0 _
  have hm : 0 ≤ mn (l.length : Int) 30 ∧ mn (l.length : Int) 30 ≤ (l.length : Int) ∧ mn (l.length : Int) 30 ≤ 30 := by
    unfold mn
    split <;> omega
  have hm2 : 0 ≤ mn (more.length : Int) 30 ∧ mn (more.length : Int) 30 ≤ (more.length : Int) ∧ mn (more.length : Int) 30 ≤ 30 := by
    unfold mn
    split <;> omega
  have hfits : BufSpec.Fits l := by
    intro i hi
    unfold BufSpec.fits BufSpec.M rd_T46
    rw [Int.toNat_natCast, List.getD_eq_getElem?_getD, List.getElem?_eq_getElem hi, Option.getD_some]
    have := (hl0.2.2 l[i] (List.getElem_mem _)).2.2.1
    omega
  suffices h : ∃ k, ∀ m m2 : Int, m = mn (l.length : Int) 30 → m2 = mn (more.length : Int) 30 → (if 0 ≤ m then (if m ≤ (l.length : Int) then ((some (l.take (m : Int).toNat : List (S46))).bind fun y377 => (if 0 ≤ m2 then (if m2 ≤ (more.length : Int) then ((some (more.take (m2 : Int).toNat : List (S46))).bind fun y381 => ((catchmentref12_Right.f k y377).bind fun t385 => (if t385 = true then ((buffer_Add.f k y377 y381).bind fun t387 => ((catchmentref12_Add.f k y377 y381).bind fun t390 => ((catchmentref04_Same.f k t387 t390).bind fun t393 => (if t393 = true then (catchmentlaw12_BufferAdds.j0 k t387 ((t387.length : Int) != (wrap64 ((y377.length : Int) + (y381.length : Int))))) else (catchmentlaw12_BufferAdds.j0 k t387 true))))) else ((catchmentlaw12_live.f k).bind fun t386 => (some t386))))) else (none)) else (none))) else (none)) else (none)) = some true by
    obtain ⟨k, h⟩ := h
    exact ⟨k, h _ _ rfl rfl⟩
  generalize mn (l.length : Int) 30 = m at *
  generalize mn (more.length : Int) 30 = m2 at *
  obtain ⟨p, hp⟩ : ∃ p, l.take m.toNat = p := ⟨_, rfl⟩
  obtain ⟨q, hq⟩ : ∃ q, more.take m2.toNat = q := ⟨_, rfl⟩
  have hlp : p.length ≤ 30 := by rw [← hp, List.length_take]; omega
  have hlq : q.length ≤ 30 := by rw [← hq, List.length_take]; omega
  have hfp : BufSpec.Fits p := by
    intro i hi
    have h1 : i < l.length := by rw [← hp, List.length_take] at hi; omega
    have h2 := hfits i h1
    unfold BufSpec.fits BufSpec.M rd_T46 at h2 ⊢
    rw [Int.toNat_natCast, List.getD_eq_getElem?_getD] at h2 ⊢
    rw [← hp, List.getElem?_take_of_lt (by rw [← hp, List.length_take] at hi; omega)]
    exact h2
  obtain ⟨R, a1, a2, a3, K1, a4⟩ := StbSpec.add_f p q (by omega)
  obtain ⟨R2, b1, b2, b3, K2, b4⟩ := BufAdd.refAdd_f p q (by omega) (by omega)
  obtain rfl : R = R2 := uniq StbSpec.sw _ _ a1 b1 (a2.trans b2.symm)
  refine ⟨K1 + K2 + 1000, fun m' m2' hm' hm2' => ?_⟩
  subst hm' hm2'
  rw [if_pos hm.1, if_pos hm.2.1, hp, Option.bind_some, if_pos hm2.1, if_pos hm2.2.1, hq, Option.bind_some, BufSpec.refBuf_f p (by omega) hfp _ (by omega), Option.bind_some]
  cases BufSpec.rt p with
  | false => rw [if_neg (by decide), alive_ge (by omega)]; rfl
  | true =>
    have hlen : ((R.length : Int) != wrap64 ((p.length : Int) + (q.length : Int))) = false := by
      rw [StbSpec.add_nat _ _ (by omega), a3]
      simp
    rw [if_pos rfl, a4 _ (by omega), Option.bind_some, b4 _ (by omega), Option.bind_some, BufAdd.same_f R (by omega) _ (by omega), Option.bind_some, if_pos rfl, hlen]
    have hj := adds_loop R (by omega) a1 (R.length - 1) 1 (K1 + K2 + 999) rfl (by omega) (by omega)
    rw [show K1 + K2 + 1000 = (K1 + K2 + 999) + 1 from rfl, catchmentlaw12_BufferAdds.j0, if_neg (by decide)]
    exact hj
end Go.Proofs.Ytnklnjghecmihaa.Pure
