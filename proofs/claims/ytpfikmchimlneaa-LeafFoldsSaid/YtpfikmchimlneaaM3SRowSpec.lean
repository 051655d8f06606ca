/- What the small functions on rows tell: the first blocks of a row, whether it is a row, its entries, whether it is right. No condition beyond sizes. -/
import Derived.Test.YtpfikmchimlneaaM3x2
import Derived.Test.YtpfikmchimlneaaM3x62
import Derived.Test.YtpfikmchimlneaaM3x59
import Derived.Test.YtpfikmchimlneaaM3x6
import Derived.Test.YtpfikmchimlneaaM3SLfSpec
set_option linter.unusedVariables false
set_option linter.unusedSimpArgs false
namespace Go.Proofs.Ytpfikmchimlneaa.RowSpec
open Go.RowKit Go.Proofs.Ytpfikmchimlneaa.M3 Go.Proofs.Ytpfikmchimlneaa.BlkBase Go.Proofs.Ytpfikmchimlneaa.LfSpec Go.Proofs.YtpfikmchimlneaaW.PrintWords Go.Proofs.YtpfikmchimlneaaW.PrintLast Go.Proofs.YtpfikmchimlneaaW.PrintMore Go.Proofs.YtpfikmchimlneaaW.Mine Go.Proofs.YtpfikmchimlneaaW.Ord
theorem hlive_90 : catchmentlaw11_live.f 90 = some true := by decide +kernel
theorem hlive_ge {k : Nat} (h : 90 ≤ k) : catchmentlaw11_live.f k = some true := by
  obtain ⟨m, rfl⟩ : ∃ m, k = 90 + m := ⟨k - 90, by omega⟩
  induction m with
  | zero => exact hlive_90
  | succ m ih => exact catchmentlaw11_live.mono (90 + m) _ (ih (by omega))
theorem drop_row {l : List (List S85)} {i : Nat} {x : List S85} {r : List (List S85)} (h : l.drop i = x :: r) : i < l.length ∧ rd_L2 l (i : Int) = x ∧ l.drop (i + 1) = r := by
  have hi : i < l.length := by
    rcases Nat.lt_or_ge i l.length with h0 | h0
    · exact h0
    · rw [List.drop_eq_nil_of_le h0] at h
      cases h
  rw [List.drop_eq_getElem_cons hi] at h
  injection h with h1 h2
  refine ⟨hi, ?_, h2⟩
  unfold rd_L2
  rw [Int.toNat_natCast, List.getD_eq_getElem?_getD, List.getElem?_eq_getElem hi, Option.getD_some, h1]
theorem few_loop (l : List (List S85)) : ∀ (d i k : Nat) (acc : List (List S85)), d = 10 - i → i ≤ 10 → acc.length = i → (∀ x ∈ acc, x.length ≤ 10) → d < k → ∃ y, catchmentlaw11_few.l0 k l acc (i : Int) = some y ∧ y.length ≤ 10 ∧ ∀ x ∈ y, x.length ≤ 10
  | d, i, 0, _, _, _, _, _, h => absurd h (by omega)
  | d, i, k + 1, acc, hd, hi, ha, hx, hk => by
    rw [catchmentlaw11_few.l0]
    by_cases h1 : (i : Int) < (l.length : Int)
    · rw [if_pos h1]
      by_cases h2 : i < 10
      · have hm : 0 ≤ mn ((rd_L2 l (i : Int)).length : Int) 10 ∧ mn ((rd_L2 l (i : Int)).length : Int) 10 ≤ ((rd_L2 l (i : Int)).length : Int) ∧ mn ((rd_L2 l (i : Int)).length : Int) 10 ≤ 10 := by
          unfold mn
          split <;> omega
        rw [if_pos (by omega), if_pos (by omega), if_pos hm.1, if_pos hm.2.1, if_pos (by omega), succ_nat i (by omega)]
        refine few_loop l (d - 1) (i + 1) k _ (by omega) (by omega) (by simp [ha]) ?_ (by omega)
        intro x hx2
        rcases List.mem_append.1 hx2 with hx2 | hx2
        · exact hx x hx2
        · obtain rfl := List.mem_singleton.1 hx2
          rw [List.length_take]
          omega
      · rw [if_neg (by omega)]
        exact ⟨acc, rfl, by omega, hx⟩
    · rw [if_neg h1]
      exact ⟨acc, rfl, by omega, hx⟩
theorem few_f (l : List (List S85)) (k : Nat) (hk : 20 ≤ k) : ∃ y, catchmentlaw11_few.f k l = some y ∧ y.length ≤ 10 ∧ ∀ x ∈ y, x.length ≤ 10 := few_loop l 10 0 k [] rfl (by omega) rfl (by simp) (by omega)
theorem flat_le {c : Nat} : ∀ {y : List (List S85)}, (∀ x ∈ y, x.length ≤ c) → y.flatten.length ≤ y.length * c
  | [], _ => by simp
  | x :: y, h => by
    have ih := flat_le (y := y) (fun z hz => h z (List.mem_cons_of_mem _ hz))
    have := h x (List.mem_cons_self ..)
    rw [List.flatten_cons, List.length_append, List.length_cons, Nat.add_mul, Nat.one_mul]
    omega
theorem ents_loop (l : List (List S85)) (hl : l.length < 400000) (hf : l.flatten.length < 400000) : ∀ (r : List (List S85)) (acc : List S85) (i k : Nat), l.drop i = r → acc.length + r.flatten.length < 900000 → r.length < k → catchmentref11_Entries.l0 k l acc (i : Int) = some (acc ++ r.flatten)
  | _, _, _, 0, _, _, h => absurd h (by omega)
  | [], acc, i, k + 1, h, _, _ => by
    have := drop_nil h
    rw [catchmentref11_Entries.l0, if_neg (by omega)]
    simp
  | x :: r, acc, i, k + 1, h, ha, hk => by
    obtain ⟨h1, h2, h3⟩ := drop_row h
    simp only [List.length_cons, List.flatten_cons, List.length_append] at hk ha
    rw [catchmentref11_Entries.l0, if_pos (by omega), if_pos (by omega), h2, if_pos (by omega), succ_nat i (by omega), ents_loop l hl hf r _ (i + 1) k h3 (by rw [List.length_append]; omega) (by omega), List.flatten_cons, List.append_assoc]
theorem refEntries_f (l : List (List S85)) (hl : l.length < 400000) (hf : l.flatten.length < 400000) (k : Nat) (hk : l.length < k) : catchmentref11_Entries.f k l = some l.flatten := ents_loop l hl hf l [] 0 k (List.drop_zero ..) (by rw [List.length_nil]; omega) hk
theorem rises_f (l : List S85) (hl : l.length < 400000) (k : Nat) (hk : l.length < k) : ∃ b, catchmentref05_Rises.f k l = some b ∧ (b = true → Srt l) := by
  obtain ⟨b, h1, h2⟩ := rises_loop hl (l.length - 1) 1 k rfl (by omega) (by omega)
  exact ⟨b, h1, fun hb => srt_of (fun j hj1 hj2 => h2 hb j hj1 hj2)⟩
theorem row_loop (l : List (List S85)) (hl : l.length < 400000) (hf : l.flatten.length < 400000) : ∀ (r : List (List S85)) (i k : Nat), l.drop i = r → r.length + l.length + l.flatten.length + 2 < k → ∃ b, catchmentref11_Row.l0 k l (i : Int) = some b ∧ (b = true → (∀ x ∈ r, x ≠ []) ∧ Srt l.flatten)
  | _, _, 0, _, h => absurd h (by omega)
  | [], i, k + 1, h, hk => by
    have := drop_nil h
    obtain ⟨b, h1, h2⟩ := rises_f l.flatten hf k (by omega)
    rw [catchmentref11_Row.l0, if_neg (by omega), refEntries_f l hl hf k (by omega), Option.bind_some, h1]
    exact ⟨b, rfl, fun hb => ⟨by simp, h2 hb⟩⟩
  | x :: r, i, k + 1, h, hk => by
    obtain ⟨h1, h2, h3⟩ := drop_row h
    simp only [List.length_cons] at hk
    rw [catchmentref11_Row.l0, if_pos (by omega), if_pos (by omega), h2, succ_nat i (by omega)]
    by_cases h0 : (x.length : Int) = 0
    · rw [if_pos h0]
      exact ⟨false, rfl, fun h => by cases h⟩
    · rw [if_neg h0]
      obtain ⟨b, b1, b2⟩ := row_loop l hl hf r (i + 1) k h3 (by omega)
      refine ⟨b, b1, fun hb => ⟨fun y hy => ?_, (b2 hb).2⟩⟩
      rcases List.mem_cons.1 hy with rfl | hy
      · exact fun h => h0 (by rw [h]; rfl)
      · exact (b2 hb).1 y hy
theorem row_f (l : List (List S85)) (hl : l.length < 400000) (hf : l.flatten.length < 400000) (k : Nat) (hk : 2 * l.length + l.flatten.length + 2 < k) : ∃ b, catchmentref11_Row.f k l = some b ∧ (b = true → WF l) := by
  obtain ⟨b, h1, h2⟩ := row_loop l hl hf l 0 k (List.drop_zero ..) (by omega)
  exact ⟨b, h1, fun hb => ⟨(h2 hb).1, (h2 hb).2⟩⟩
theorem entries_f (l : List (List S85)) (h : l.flatten.length < 400000) : leaf_Entries.f l = some l.flatten := by
  unfold leaf_Entries.f api_Entry_76.f api_Entry_76.total
  rw [← List.length_flatten, if_pos (by omega)]
  rfl
theorem srt_rd {l : List S85} (h : Srt l) (i : Nat) (h0 : 0 < i) (hi : i < l.length) : Op.bytesLess (rd_T85 l ((i - 1 : Nat) : Int)).f0.toList (rd_T85 l (i : Int)).f0.toList = true := by
  rw [rd_get l (i - 1) (by omega), rd_get l i hi]
  exact List.pairwise_iff_getElem.1 h (i - 1) i (by omega) hi (by omega)
theorem fold_loop {l : List S85} (hl : l.length < 400000) (ha : Srt l) : ∀ (d i k : Nat), d = l.length - i → i ≤ l.length → d < k → fold_Rises.l0 k l (l.length : Int) (i : Int) = some true
  | d, i, 0, _, _, h => absurd h (by omega)
  | 0, i, k + 1, hd, hi, _ => by rw [fold_Rises.l0, if_neg (by omega)]
  | d + 1, i, k + 1, hd, hi, hk => by
    rw [fold_Rises.l0, if_pos (by omega), succ_nat i (by omega)]
    by_cases h0 : 0 < i
    · rw [if_pos (by omega), pred_nat i h0 (by omega), if_pos (by omega), if_pos (by omega), if_pos (by omega), if_pos (by omega), if_pos (srt_rd ha i h0 (by omega))]
      exact fold_loop hl ha d (i + 1) k (by omega) (by omega) (by omega)
    · rw [if_neg (by omega)]
      exact fold_loop hl ha d (i + 1) k (by omega) (by omega) (by omega)
theorem foldRises_f {l : List S85} (hl : l.length < 400000) (ha : Srt l) (k : Nat) (hk : l.length < k) : fold_Rises.f k l = some true := fold_loop hl ha l.length 0 k (by omega) (by omega) hk
theorem right_loop {l : List (List S85)} (h : WF l) {M : Int} (hM : ∀ x ∈ l, (x.length : Int) ≤ M) (hl : l.length < 400000) (hf : l.flatten.length < 400000) : ∀ (r : List (List S85)) (i k : Nat), l.drop i = r → r.length + l.flatten.length + 2 < k → leaf_Right.l0 k l M l (l.length : Int) (i : Int) = some true
  | _, _, 0, _, h => absurd h (by omega)
  | [], i, k + 1, hd, hk => by
    have := drop_nil hd
    rw [leaf_Right.l0, if_neg (by omega), entries_f l hf, Option.bind_some, foldRises_f hf h.srt k (by omega)]
    rfl
  | x :: r, i, k + 1, hd, hk => by
    obtain ⟨h1, h2, h3⟩ := drop_row hd
    simp only [List.length_cons] at hk
    have hx : x ∈ l := by rw [← h2]; exact rd_mem i h1
    have hx1 := List.length_pos_iff.2 (h.ne x hx)
    have hx2 := flat_len x hx
    have hx3 := hM x hx
    have hb : block_Right.f k x M = some true := by
      unfold block_Right.f
      rw [if_pos (by omega), if_pos hx3, foldRises_f (by omega) (block_srt h.srt x hx) k (by omega)]
      rfl
    rw [leaf_Right.l0, if_pos (by omega), if_pos (by omega), if_pos (by omega), h2, hb, Option.bind_some, if_pos rfl, succ_nat i (by omega)]
    exact right_loop h hM hl hf r (i + 1) k h3 (by omega)
theorem leafRight_f {l : List (List S85)} (h : WF l) {M : Int} (hM : ∀ x ∈ l, (x.length : Int) ≤ M) (hl : l.length < 400000) (hf : l.flatten.length < 400000) (k : Nat) (hk : l.length + l.flatten.length + 2 < k) : leaf_Right.f k l M = some true := right_loop h hM hl hf l 0 k (List.drop_zero ..) hk
end Go.Proofs.Ytpfikmchimlneaa.RowSpec
