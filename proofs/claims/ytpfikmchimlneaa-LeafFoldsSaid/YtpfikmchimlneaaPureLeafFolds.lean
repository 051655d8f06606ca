/- For all rows of blocks, messages and numbers the law LeafFolds answers true: no condition beyond what a Go value of these types can be. -/
import Derived.Test.YtpfikmchimlneaaM3x85
import Derived.Test.YtpfikmchimlneaaM3SRowSpec
set_option linter.unusedVariables false
set_option linter.unusedSimpArgs false
namespace Go.Proofs.Ytpfikmchimlneaa.Pure
open Go.RowKit Go.Proofs.Ytpfikmchimlneaa.M3 Go.Proofs.Ytpfikmchimlneaa.BlkBase Go.Proofs.Ytpfikmchimlneaa.BlkSpec Go.Proofs.Ytpfikmchimlneaa.EntSpec Go.Proofs.Ytpfikmchimlneaa.LfSpec Go.Proofs.Ytpfikmchimlneaa.RowSpec Go.Proofs.YtpfikmchimlneaaW.PrintWords Go.Proofs.YtpfikmchimlneaaW.PrintLast Go.Proofs.YtpfikmchimlneaaW.PrintMore Go.Proofs.YtpfikmchimlneaaW.Mine Go.Proofs.YtpfikmchimlneaaW.Ord
/-- what a message makes of a block is what the document says -/
theorem apply_one {e : List S85} (he : Srt e) (hl : e.length < 1400) (m : S69) (hm : Num m) (k : Nat) (hk : 12000 ≤ k) : ∃ R, block_Apply.f k e m.f0 m.f1 m.f2 m.f3 m.f4 m.f5 = some R ∧ catchmentref11_one.f k e m.f0 m.f1 m.f2 m.f3 m.f4 m.f5 = some R ∧ R.length ≤ e.length + 1 ∧ (pnt m = false → R = e.filter fun x => !(tch m x.f0)) := by
  obtain ⟨R, r1, r2, r3, r4⟩ := ents_f (ms := [m]) (by simp) (fun x hx => by obtain rfl := List.mem_singleton.1 hx; exact hm) (l := e) (by omega) k (by omega)
  have ho : catchmentref11_one.f k e m.f0 m.f1 m.f2 m.f3 m.f4 m.f5 = some R := by
    unfold catchmentref11_one.f
    have : ([(⟨m.f0, m.f1, m.f2, m.f3, m.f4, m.f5⟩ : S69)] : List S69) = [m] := rfl
    rw [this, r1]
    rfl
  have hr : ∀ q, find R q = on m q (find e q).1 (find e q).2 := fun q => by rw [r3]; rfl
  refine ⟨R, ?_, ho, by simpa [Nat.add_comm] using r4, fun hp => ?_⟩
  · cases hp : pnt m with
    | true =>
      obtain ⟨lo, o, hi, P⟩ := parts he m.f2
      rw [apply_point hp P (by omega) k (by omega)]
      congr 1
      exact srt_ext (srt_mid P _) r2 (fun q => by rw [find_point hp P, hr])
    | false =>
      rw [apply_other hp he (by omega) k (by omega)]
      congr 1
      exact srt_ext (he.filter _) r2 (fun q => by rw [find_filter hp, hr])
  · exact srt_ext r2 (he.filter _) (fun q => by rw [find_filter hp, hr])
theorem tail_res (A C : List (List S85)) (e x : List S85) (M : Int) (hx : x.length < 400000) : leaf_point.tail (A ++ x :: C) A.length x e.length M = some (catchmentref11_point.res A e C x M) := by
  unfold leaf_point.tail catchmentref11_point.res
  rw [take_at, drop_at]
  by_cases h0 : x.length = 0
  · rw [if_pos h0, if_pos h0]
  rw [if_neg h0, if_neg h0]
  by_cases h1 : M < (x.length : Int)
  · rw [if_pos h1, if_pos h1, halves_f x hx]
    rfl
  rw [if_neg h1, if_neg h1]
  by_cases h2 : x.length < e.length
  · rw [if_pos h2, if_neg (show ¬ e.length ≤ x.length by omega)]
    by_cases h3 : leaf_weld.can (A ++ x :: C) (A.length : Int) M = true
    · rw [if_pos h3, if_pos h3]
    · rw [if_neg h3, if_neg h3]
      by_cases h4 : leaf_weld.can (A ++ x :: C) ((A.length : Int) - 1) M = true
      · rw [if_pos h4]
      · rw [if_neg h4]
        unfold leaf_weld.w
        rw [if_neg h4]
  · rw [if_neg h2, if_pos (show e.length ≤ x.length by omega)]
theorem nz (n : Nat) : decide (0 < n) = !(decide (n = 0)) := by
  by_cases h : n = 0
  · subst h; rfl
  · rw [decide_eq_true (by omega), decide_eq_false h]; rfl
theorem step_both {b : List (List S85)} (h : WF b) (m : S69) (hm : Num m) (most : Int) (hl : b.flatten.length < 1300) (k : Nat) (hk : 12000 ≤ k) : ∃ ys, leaf_Fold.step k (max most 2) b m = some ys ∧ catchmentref11_Apply.Step k most m b ys := by
  have hbl := row_len h.ne
  unfold leaf_Fold.step
  rw [if_pos (by omega), isPoint_f, Option.bind_some]
  cases hp : pnt m with
  | true =>
    have hpf : catchmentref04_Point.f m.f0 m.f1 m.f2 m.f3 m.f4 m.f5 = some true := by rw [refPoint_f, hp]
    rw [if_pos rfl]
    unfold leaf_point.f
    by_cases h0 : b.length = 0
    · obtain rfl := List.eq_nil_of_length_eq_zero h0
      obtain ⟨R, r1, r2, _, _⟩ := apply_one srt_nil (by simp) m hm k hk
      rw [if_pos (show ([] : List (List S85)).length = 0 from rfl), r1, Option.bind_some]
      refine ⟨_, rfl, ?_⟩
      have hs := catchmentref11_Apply.Step.nil (k := k) (most := most) (m := m) R hpf r2
      by_cases hz : R.length = 0
      · rw [if_pos hz] at hs
        rw [if_neg (by omega)]
        exact hs
      · rw [if_neg hz] at hs
        rw [if_pos (by omega)]
        exact hs
    · rw [if_neg h0]
      obtain ⟨A, e, C, rfl, h1, h2, h3, h4, h5⟩ := of_f h (fun h' => h0 (by rw [h']; rfl)) (by omega) m.f2 k (by omega)
      have hel := flat_len (l := A ++ e :: C) e (by simp)
      have hes := block_srt h.srt e (by simp)
      obtain ⟨x, r1, r2, r3, _⟩ := apply_one hes (by omega) m hm k hk
      have hg : (A ++ e :: C).getD A.length [] = e := by
        rw [List.getD_eq_getElem?_getD, List.getElem?_append_right (Nat.le_refl _), Nat.sub_self]
        rfl
      have hall : ((A ++ x :: C).all fun y => decide (y.length < 400000)) = true := by
        rw [List.all_eq_true]
        intro y hy
        rw [decide_eq_true_eq]
        rcases List.mem_append.1 hy with hy | hy
        · have := flat_len (l := A ++ e :: C) y (by simp [hy]); omega
        · rcases List.mem_cons.1 hy with rfl | hy
          · omega
          · have := flat_len (l := A ++ e :: C) y (by simp [hy]); omega
      rw [h1, Option.bind_some, if_pos ⟨by omega, by simp; omega⟩, Int.toNat_natCast, hg, r1, Option.bind_some, set_at, if_pos hall, tail_res A C e x _ (by omega)]
      refine ⟨_, rfl, catchmentref11_Apply.Step.point A e C x hpf (by omega) h.ne (fun y hy => by have := flat_len y hy; omega) (fun hA => Bool.eq_false_iff.2 (h5 hA)) (fun y hy => h4 y hy) (by omega) r2⟩
  | false =>
    have hpf : catchmentref04_Point.f m.f0 m.f1 m.f2 m.f3 m.f4 m.f5 = some false := by rw [refPoint_f, hp]
    rw [if_neg (by decide)]
    have hs := catchmentref11_Apply.Step.other (k := k) (most := most) (m := m) b (fun y => y.filter fun x => !(tch m x.f0)) hpf (by omega) (fun y hy => by
      obtain ⟨R, _, r2, _, r4⟩ := apply_one (block_srt h.srt y hy) (by have := flat_len y hy; omega) m hm k hk
      rw [r2, r4 hp])
    by_cases h4 : m.f0 = 4
    · rw [if_pos h4, swept_f hp (fun x hx => ⟨block_srt h.srt x hx, by have := flat_len x hx; omega, by have := flat_len x hx; omega⟩), Option.map_some]
      refine ⟨_, rfl, ?_⟩
      simp only [← nz]
      exact hs
    · rw [if_neg h4]
      refine ⟨b, rfl, ?_⟩
      have hid : ∀ y : List S85, (y.filter fun x => !(tch m x.f0)) = y := fun y => by
        refine List.filter_eq_self.2 (fun x _ => ?_)
        unfold tch
        rw [if_neg (by rw [hp]; decide), if_neg h4]
        rfl
      have hmap : (b.map fun y => y.filter fun x => !(tch m x.f0)) = b := by
        simp only [hid]
        exact List.map_id' b
      rw [hmap, List.filter_eq_self.2 (fun y hy => decide_eq_true (List.length_pos_iff.2 (h.ne y hy)))] at hs
      exact hs
theorem chain_both (most : Int) (k : Nat) (hk : 12000 ≤ k) : ∀ (ms : List S69) (b : List (List S85)), WF b → (∀ m ∈ ms, Num m) → b.flatten.length + ms.length < 1300 → ∃ r, ms.foldlM (leaf_Fold.step k (max most 2)) b = some r ∧ catchmentref11_Fold.Chain k most ms b r ∧ WF r ∧ r.flatten.length ≤ b.flatten.length + ms.length
  | [], b, h, _, _ => ⟨b, rfl, .nil b, h, by simp⟩
  | m :: ms, b, h, hn, hl => by
    simp only [List.length_cons] at hl
    obtain ⟨ys, y1, y2⟩ := step_both h m (hn m (List.mem_cons_self ..)) most (by omega) k hk
    obtain ⟨zs, z1, z2, _, _, z5⟩ := step_f h m (max most 2) (by omega) (by omega) k (by omega)
    rw [y1] at z1
    obtain rfl := Option.some.inj z1
    obtain ⟨r, r1, r2, r3, r4⟩ := chain_both most k hk ms ys z2 (fun x hx => hn x (List.mem_cons_of_mem _ hx)) (by omega)
    refine ⟨r, ?_, .cons m ms b ys r y2 r2, r3, by simp only [List.length_cons]; omega⟩
    rw [List.foldlM_cons, y1]
    exact r1
theorem fold_eq {b : List (List S85)} (h : WF b) (ms : List S69) (most : Int) (hm : most ≤ 9223372036854775807) (hl : b.flatten.length < 100000) (k : Nat) : leaf_Fold.f k b ms most = ms.foldlM (leaf_Fold.step k (max most 2)) b := by
  have hbl := row_len h.ne
  have hfit : leaf_copied.f b = some b := by
    unfold leaf_copied.f leaf_copied.fits
    rw [decide_eq_true (show b.length < 1000000 by omega), Bool.true_and, if_pos]
    rw [List.all_eq_true]
    intro x hx
    have := flat_len x hx
    exact decide_eq_true (by omega)
  unfold leaf_Fold.f leaf_Fold.g
  rw [if_pos hm, hfit, Option.bind_some]
theorem rows_loop (l : List (List S85)) (hl : l.length < 10000) (he : ∀ x ∈ l, x.length < 2000) : ∀ (r : List (List S85)) (i k : Nat), l.drop i = r → r.length + 2000 < k → catchmentref11_Same.l0 k l l (i : Int) = some true
  | _, _, 0, _, h => absurd h (by omega)
  | [], i, k + 1, h, hk => by
    have := drop_nil h
    rw [catchmentref11_Same.l0, if_neg (by omega)]
  | x :: r, i, k + 1, h, hk => by
    obtain ⟨h1, h2, h3⟩ := drop_row h
    simp only [List.length_cons] at hk
    have hx : x ∈ l := by rw [← h2]; exact rd_mem i h1
    have := he x hx
    rw [catchmentref11_Same.l0, if_pos (by omega), if_pos (by omega), if_pos (by omega), h2, same_f x (by omega) k (by omega), Option.bind_some, if_pos rfl, succ_nat i (by omega)]
    exact rows_loop l hl he r (i + 1) k h3 (by omega)
theorem rowsSame_f {l : List (List S85)} (h : WF l) (hf : l.flatten.length < 1400) (k : Nat) (hk : 12000 ≤ k) : catchmentref11_Same.f k l l = some true := by
  have hbl := row_len h.ne
  unfold catchmentref11_Same.f
  rw [if_pos rfl]
  exact rows_loop l (by omega) (fun x hx => by have := flat_len x hx; omega) l 0 k (List.drop_zero ..) (by omega)
theorem LeafFolds_ok (l0 : List (List S85)) (l1 : List S69) (a2 : Int) (hn : ∀ m ∈ l1, Num m) (ha : a2 ≤ 9223372036854775807) : catchmentlaw11_LeafFolds.Ok 20000 l0 l1 a2 := by
  obtain ⟨y, y1, y2, y3⟩ := few_f l0 20000 (by omega)
  have hyf := flat_le y3
  have hyf2 : y.flatten.length ≤ 100 := by have := Nat.mul_le_mul_right 10 y2; omega
  obtain ⟨b, b1, b2⟩ := row_f y (by omega) (by omega) 20000 (by omega)
  refine ⟨y, b, y1, b1, hlive_ge (by omega), fun hb => ?_⟩
  have hw := b2 hb
  have hms : (l1.take (mn (l1.length : Int) 30).toNat).length ≤ 30 := by
    have : mn (l1.length : Int) 30 ≤ 30 := by unfold mn; split <;> omega
    rw [List.length_take]
    omega
  have hnm : ∀ m ∈ l1.take (mn (l1.length : Int) 30).toNat, Num m := fun m h => hn m (List.mem_of_mem_take h)
  generalize l1.take (mn (l1.length : Int) 30).toNat = ms at hms hnm
  refine ⟨ha, fun m hm => ?_, ?_⟩
  · obtain ⟨r, r1, r2, r3, r4⟩ := chain_both a2 20000 (by omega) [m] y hw (fun x hx => by obtain rfl := List.mem_singleton.1 hx; exact hnm _ hm) (by rw [List.length_singleton]; omega)
    refine ⟨r, ?_, ?_, rowsSame_f r3 (by rw [List.length_singleton] at r4; omega) 20000 (by omega)⟩
    · unfold leaf_Apply.f
      have : ([(⟨m.f0, m.f1, m.f2, m.f3, m.f4, m.f5⟩ : S69)] : List S69) = [m] := rfl
      rw [this, fold_eq hw [m] a2 ha (by omega) 20000, r1]
      rfl
    · cases r2 with
      | cons _ _ _ z _ h1 h2 =>
        cases h2
        exact h1
  · obtain ⟨r, r1, r2, r3, r4⟩ := chain_both a2 20000 (by omega) ms y hw hnm (by omega)
    exact ⟨r, by rw [fold_eq hw ms a2 ha (by omega) 20000, r1], r2, rowsSame_f r3 (by omega) 20000 (by omega)⟩
theorem LeafFolds : catchmentlaw11_LeafFolds.Pure := by
  intro l0 l1 a2 _ h1 h
  have hb : -9223372036854775808 ≤ a2 ∧ a2 ≤ 9223372036854775807 := by simpa [Lit.wf, IntKind.min, IntKind.max, IntKind.signed, IntKind.bits] using h
  refine ⟨20000, ?_⟩
  unfold catchmentlaw11_LeafFolds.f
  refine if_pos (LeafFolds_ok l0 l1 a2 (fun m hm => ?_) hb.2)
  have h5 : (Lit.int .u64 m.f5).wf = true := (h1.2.2 m hm).2.2.2.2.2
  have h6 : 0 ≤ m.f5 ∧ m.f5 ≤ 18446744073709551615 := by simpa [Lit.wf, IntKind.min, IntKind.max, IntKind.signed, IntKind.bits] using h5
  exact h6
end Go.Proofs.Ytpfikmchimlneaa.Pure
