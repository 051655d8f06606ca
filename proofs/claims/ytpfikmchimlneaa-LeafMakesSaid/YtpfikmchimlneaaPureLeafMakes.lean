/- For all entries and numbers the law LeafMakes answers true: no condition beyond what a Go value of these types can be. -/
import Derived.Test.YtpfikmchimlneaaM1x63
import Derived.Test.YtpfikmchimlneaaM1V0
set_option linter.unusedVariables false
set_option linter.unusedSimpArgs false
namespace Go.Proofs.Ytpfikmchimlneaa.Pure
open Go.RowKit Go.Proofs.Ytpfikmchimlneaa.M1 Go.Proofs.YtpfikmchimlneaaW.PrintWords Go.Proofs.YtpfikmchimlneaaW.PrintLast Go.Proofs.YtpfikmchimlneaaW.PrintMore Go.Proofs.YtpfikmchimlneaaW.Mine Go.Proofs.YtpfikmchimlneaaW.Ord
theorem wrap64_id {n : Int} (h0 : 0 ≤ n) (h1 : n < 9223372036854775808) : wrap64 n = n := by unfold wrap64; omega
theorem succ_nat (i : Nat) (h2 : i < 1000000) : wrap64 ((i : Int) + 1) = ((i + 1 : Nat) : Int) := by rw [wrap64_id (by omega) (by omega)]; omega
theorem hlive_90 : catchmentlaw11_live.f 90 = some true := by decide +kernel
theorem hlive_ge {k : Nat} (h : 90 ≤ k) : catchmentlaw11_live.f k = some true := by
  obtain ⟨m, rfl⟩ : ∃ m, k = 90 + m := ⟨k - 90, by omega⟩
  induction m with
  | zero => exact hlive_90
  | succ m ih => exact catchmentlaw11_live.mono (90 + m) _ (ih (by omega))
theorem clone_f (l : List S85) (h : l.length < 1000000) : api_Entry_86.f l = some l := by
  unfold api_Entry_86.f
  rw [if_pos h]
theorem tdiv_nat (a b : Nat) (ha : a < 1000000) : wrap64 (Int.tdiv (wrap64 (a : Int)) (b : Int)) = ((a / b : Nat) : Int) := by
  rw [wrap64_id (n := (a : Int)) (by omega) (by omega), show Int.tdiv (a : Int) (b : Int) = ((a / b : Nat) : Int) from rfl]
  have h1 := Nat.div_le_self a b
  generalize a / b = q at h1
  exact wrap64_id (by omega) (by omega)
/-! ### the pieces -/
def pc (y : List S85) (K i : Nat) : List S85 := (y.take (y.length * (i + 1) / K)).drop (y.length * i / K)
def mk (y : List S85) (K i : Nat) : List (List S85) := (List.range i).map (pc y K)
theorem mk_succ (y : List S85) (K i : Nat) : mk y K (i + 1) = mk y K i ++ [pc y K i] := by simp [mk, List.range_succ]
theorem mk_len (y : List S85) (K i : Nat) : (mk y K i).length = i := by simp [mk]
theorem mk_get (y : List S85) (K i j : Nat) (h : j < i) : rd_L2 (mk y K i) (j : Int) = pc y K j := by
  simp [rd_L2, mk, h]
section
variable {y : List S85} {K : Nat}
theorem cuts (i : Nat) (hi : i < K) : y.length * i / K ≤ y.length * (i + 1) / K ∧ y.length * (i + 1) / K ≤ y.length := by
  refine ⟨Nat.div_le_div_right (Nat.mul_le_mul_left _ (by omega)), ?_⟩
  refine Nat.div_le_of_le_mul ?_
  rw [Nat.mul_comm K]
  exact Nat.mul_le_mul_left _ (by omega)
theorem small (hn : y.length ≤ 60) (hK : K ≤ y.length) (i : Nat) (hi : i ≤ K) : y.length * i < 1000000 := by
  have := Nat.mul_le_mul hn (show i ≤ 60 by omega)
  omega
theorem pc_len (i : Nat) (hi : i < K) : (pc y K i).length = y.length * (i + 1) / K - y.length * i / K := by
  have := cuts (y := y) i hi
  unfold pc
  rw [List.length_drop, List.length_take]
  omega
theorem leaf_loop (hn : y.length ≤ 60) (hK : K ≤ y.length) : ∀ (d i k : Nat), d = K - i → i ≤ K → d < k → leaf_Make.l0 k y (y.length : Int) (K : Int) (mk y K i) (K : Int) (i : Int) = some (mk y K K)
  | d, i, 0, _, _, h => absurd h (by omega)
  | 0, i, k + 1, hd, hi, _ => by
    obtain rfl : i = K := by omega
    rw [leaf_Make.l0, if_neg (by omega)]
  | d + 1, i, k + 1, hd, hi, hk => by
    have hi2 : i < K := by omega
    obtain ⟨h1, h2⟩ := cuts (y := y) i hi2
    have s1 := small hn hK i (by omega)
    have s2 := small hn hK (i + 1) (by omega)
    obtain ⟨p1, hp1⟩ : ∃ p, y.length * i / K = p := ⟨_, rfl⟩
    obtain ⟨p2, hp2⟩ : ∃ p, y.length * (i + 1) / K = p := ⟨_, rfl⟩
    have hq : (y.take p2).drop p1 = pc y K i := by unfold pc; rw [hp1, hp2]
    rw [hp1] at h1
    rw [hp2] at h1 h2
    have hc : ((y.take p2).drop p1).length < 1000000 := by rw [List.length_drop, List.length_take]; omega
    have g1 : (i : Int) < (K : Int) := by omega
    have g2 : ¬ ((K : Int) = 0) := by omega
    have g3 : (0 : Int) ≤ (p1 : Int) := by omega
    have g4 : (p1 : Int) ≤ (p2 : Int) := by omega
    have g5 : (p2 : Int) ≤ (y.length : Int) := by omega
    have g6 : i < 5864062014805 := by omega
    have e1 : wrap64 ((i : Int) + 1) = ((i + 1 : Nat) : Int) := succ_nat i (by omega)
    have t1 := tdiv_nat (y.length * i) K s1
    have t2 := tdiv_nat (y.length * (i + 1)) K s2
    have c1 : ((y.length * i : Nat) : Int) = (y.length : Int) * (i : Int) := Int.natCast_mul _ _
    have c2 : ((y.length * (i + 1) : Nat) : Int) = (y.length : Int) * ((i + 1 : Nat) : Int) := Int.natCast_mul _ _
    rw [c1, hp1] at t1
    rw [c2, hp2] at t2
    rw [leaf_Make.l0, if_pos g1, if_neg g2, e1, t1, t2, if_pos g3, if_pos g4, if_pos g5, Int.toNat_natCast, Int.toNat_natCast, clone_f _ hc, Option.bind_some, mk_len, if_pos g6, hq]
    rw [← mk_succ]
    clear t1 t2 e1
    exact leaf_loop hn hK d (i + 1) k (by omega) (by omega) (by omega)
theorem ref_loop (hn : y.length ≤ 60) (hK : K ≤ y.length) : ∀ (d i k : Nat), d = K - i → i ≤ K → d < k → catchmentref11_Make.l1 k y (mk y K i) (K : Int) ((y.length * i / K : Nat) : Int) ((i + 1 : Nat) : Int) = some (mk y K K)
  | d, i, 0, _, _, h => absurd h (by omega)
  | 0, i, k + 1, hd, hi, _ => by
    obtain rfl : i = K := by omega
    rw [catchmentref11_Make.l1, if_neg (by omega)]
  | d + 1, i, k + 1, hd, hi, hk => by
    have hi2 : i < K := by omega
    obtain ⟨h1, h2⟩ := cuts (y := y) i hi2
    have s2 := small hn hK (i + 1) (by omega)
    obtain ⟨p1, hp1⟩ : ∃ p, y.length * i / K = p := ⟨_, rfl⟩
    obtain ⟨p2, hp2⟩ : ∃ p, y.length * (i + 1) / K = p := ⟨_, rfl⟩
    have hq : (y.take p2).drop p1 = pc y K i := by unfold pc; rw [hp1, hp2]
    rw [hp1] at h1
    rw [hp2] at h1 h2
    have ih := ref_loop hn hK d (i + 1) k (by omega) (by omega) (by omega)
    rw [hp2] at ih
    rw [hp1]
    have hc : ((y.take p2).drop p1).length < 1000000 := by rw [List.length_drop, List.length_take]; omega
    have g1 : ((i + 1 : Nat) : Int) ≤ (K : Int) := by omega
    have g2 : ¬ ((K : Int) = 0) := by omega
    have g3 : (0 : Int) ≤ (p1 : Int) := by omega
    have g4 : (p1 : Int) ≤ (p2 : Int) := by omega
    have g5 : (p2 : Int) ≤ (y.length : Int) := by omega
    have g6 : i < 5864062014805 := by omega
    have g7 : ([] : List S85).length + (pc y K i).length < 4398046511104 := by rw [← hq, List.length_nil]; omega
    have e1 : wrap64 (((i + 1 : Nat) : Int) + 1) = ((i + 1 + 1 : Nat) : Int) := succ_nat (i + 1) (by omega)
    have t2 := tdiv_nat (y.length * (i + 1)) K s2
    have c2 : ((y.length * (i + 1) : Nat) : Int) = (y.length : Int) * ((i + 1 : Nat) : Int) := Int.natCast_mul _ _
    rw [c2, hp2] at t2
    rw [catchmentref11_Make.l1, if_pos g1, if_neg g2, Option.bind_some, e1, t2, if_pos g3, if_pos g4, if_pos g5, Option.bind_some, Int.toNat_natCast, Int.toNat_natCast, hq, if_pos g7, mk_len, if_pos g6, List.nil_append]
    rw [← mk_succ]
    exact ih
theorem flat (h : 0 < K) : ∀ i, i ≤ K → (mk y K i).flatten = y.take (y.length * i / K)
  | 0, _ => by simp [mk]
  | i + 1, hi => by
    obtain ⟨h1, h2⟩ := cuts (y := y) i (by omega : i < K)
    rw [mk_succ, List.flatten_append, flat h i (by omega)]
    show _ ++ [pc y K i].flatten = _
    rw [List.flatten_singleton]
    unfold pc
    have e : y.take (y.length * i / K) = (y.take (y.length * (i + 1) / K)).take (y.length * i / K) := by rw [List.take_take, Nat.min_eq_left h1]
    rw [e, List.take_append_drop]
theorem flat_all (h : 0 < K) : (mk y K K).flatten = y := by
  rw [flat h K (Nat.le_refl _), Nat.mul_div_cancel _ h, List.take_of_length_le (Nat.le_refl _)]
/-- each piece has n / K or one more -/
theorem pc_even (i : Nat) (hi : i < K) : y.length / K ≤ (pc y K i).length ∧ (pc y K i).length ≤ y.length / K + 1 := by
  rw [pc_len i hi]
  have hK : 0 < K := by omega
  have hd := Nat.div_add_mod y.length K
  have hr := Nat.mod_lt y.length hK
  have e : y.length * (i + 1) / K = (y.length * i + y.length % K) / K + y.length / K := by
    have : y.length * (i + 1) = y.length * i + y.length % K + K * (y.length / K) := by rw [Nat.mul_add, Nat.mul_one]; omega
    rw [this, Nat.add_mul_div_left _ _ hK]
  have l1 : y.length * i / K ≤ (y.length * i + y.length % K) / K := Nat.div_le_div_right (Nat.le_add_right _ _)
  have l2 : (y.length * i + y.length % K) / K ≤ y.length * i / K + 1 := by
    rw [← Nat.add_div_right _ hK]
    exact Nat.div_le_div_right (by omega)
  rw [e]
  clear e hd hr
  generalize (y.length * i + y.length % K) / K = a1 at l1 l2 ⊢
  generalize y.length * i / K = b1 at l1 l2 ⊢
  generalize y.length / K = q1
  omega
end
/-! ### what rises -/
def Adj (l : List S85) : Prop := ∀ j : Nat, 1 ≤ j → j < l.length → Op.bytesLess (rd_T85 l ((j - 1 : Nat) : Int)).f0.toList (rd_T85 l (j : Int)).f0.toList = true
theorem pred_nat (i : Nat) (h : 0 < i) (h2 : i < 1000000) : wrap64 ((i : Int) - 1) = ((i - 1 : Nat) : Int) := by rw [wrap64_id (by omega) (by omega)]; omega
theorem rises_loop (l : List S85) (hl : l.length < 1000000) : ∀ (d i k : Nat), d = l.length - i → 1 ≤ i → d < k → ∃ b, catchmentref05_Rises.l0 k l (i : Int) = some b ∧ (b = true → ∀ j : Nat, i ≤ j → j < l.length → Op.bytesLess (rd_T85 l ((j - 1 : Nat) : Int)).f0.toList (rd_T85 l (j : Int)).f0.toList = true)
  | d, i, 0, _, _, h => absurd h (by omega)
  | d, i, k + 1, hd, hi, hk => by
    by_cases h : i < l.length
    · rw [catchmentref05_Rises.l0, if_pos (by omega), pred_nat i hi (by omega), if_pos (by omega), if_pos (by omega), if_pos (by omega), succ_nat i (by omega)]
      split
      · rename_i hlt
        obtain ⟨b, h1, h2⟩ := rises_loop l hl (d - 1) (i + 1) k (by omega) (by omega) (by omega)
        refine ⟨b, h1, fun hb j hj1 hj2 => ?_⟩
        by_cases hji : j = i
        · subst hji
          exact hlt
        · exact h2 hb j (by omega) hj2
      · exact ⟨_, rfl, fun h => by cases h⟩
    · rw [catchmentref05_Rises.l0, if_neg (by omega)]
      exact ⟨_, rfl, fun _ j h1 h2 => absurd h2 (by omega)⟩
theorem fold_loop (l : List S85) (hl : l.length < 1000000) (ha : Adj l) : ∀ (d i k : Nat), d = l.length - i → i ≤ l.length → d < k → fold_Rises.l0 k l (l.length : Int) (i : Int) = some true
  | d, i, 0, _, _, h => absurd h (by omega)
  | 0, i, k + 1, hd, hi, _ => by rw [fold_Rises.l0, if_neg (by omega)]
  | d + 1, i, k + 1, hd, hi, hk => by
    rw [fold_Rises.l0, if_pos (by omega), succ_nat i (by omega)]
    by_cases h0 : 0 < i
    · rw [if_pos (by omega), pred_nat i h0 (by omega), if_pos (by omega), if_pos (by omega), if_pos (by omega), if_pos (by omega), if_pos (ha i h0 (by omega))]
      exact fold_loop l hl ha d (i + 1) k (by omega) (by omega) (by omega)
    · rw [if_neg (by omega)]
      exact fold_loop l hl ha d (i + 1) k (by omega) (by omega) (by omega)
theorem same_loop (l : List S85) (hl : l.length < 1000000) : ∀ (d i k : Nat), d = l.length - i → i ≤ l.length → d < k → catchmentref05_Same.l0 k l l (i : Int) = some true
  | d, i, 0, _, _, h => absurd h (by omega)
  | 0, i, k + 1, hd, hi, hk => by rw [catchmentref05_Same.l0, if_neg (by omega)]
  | d + 1, i, k + 1, hd, hi, hk => by
    rw [catchmentref05_Same.l0, if_pos (by omega), if_pos (by omega), if_pos (by omega), if_neg (by simp), succ_nat i (by omega)]
    exact same_loop l hl d (i + 1) k (by omega) (by omega) (by omega)
theorem same_f (l : List S85) (hl : l.length < 1000000) (k : Nat) (hk : l.length < k) : catchmentref05_Same.f k l l = some true := by
  unfold catchmentref05_Same.f
  rw [if_pos rfl]
  exact same_loop l hl l.length 0 k (by omega) (by omega) hk
/-! ### how many pieces -/
theorem count_loop {y : List S85} {K M : Nat} (hn : y.length ≤ 60) (hM : M < 9223372036854775808) (hlo : ∀ j, j < K → j * M < y.length) (hhi : y.length ≤ K * M) (hK : K ≤ y.length) (acc : List (List S85)) : ∀ (d i k : Nat), d = K - i → i ≤ K → catchmentref11_Make.l0 (k + d + 1) y (M : Int) acc (i : Int) = catchmentref11_Make.l1 k y acc (K : Int) 0 1
  | 0, i, k, hd, hi => by
    obtain rfl : i = K := by omega
    have hb : i * M < 9223372036854775808 := by
      rcases Nat.eq_zero_or_pos i with h0 | h0
      · subst h0; omega
      · have h1 := hlo (i - 1) (by omega)
        have h2 : i * M = (i - 1) * M + M := by rw [← Nat.succ_mul]; congr 1; omega
        rcases Nat.eq_zero_or_pos (i - 1) with h3 | h3
        · rw [h3] at h2; omega
        · have h4 : M ≤ (i - 1) * M := Nat.le_mul_of_pos_left _ h3
          omega
    have hg : ¬ (((i * M : Nat) : Int) < (y.length : Int)) := by omega
    have hw : wrap64 ((i : Int) * (M : Int)) = ((i * M : Nat) : Int) := by rw [← Int.natCast_mul i M]; exact wrap64_id (by omega) (by omega)
    rw [catchmentref11_Make.l0, hw, if_neg hg]
  | d + 1, i, k, hd, hi => by
    have h1 := hlo i (by omega)
    have hg : (((i * M : Nat) : Int) < (y.length : Int)) := by omega
    have e1 : wrap64 ((i : Int) + 1) = ((i + 1 : Nat) : Int) := succ_nat i (by omega)
    have ih := count_loop hn hM hlo hhi hK acc d (i + 1) k (by omega) (by omega)
    have hw : wrap64 ((i : Int) * (M : Int)) = ((i * M : Nat) : Int) := by rw [← Int.natCast_mul i M]; exact wrap64_id (by omega) (by omega)
    rw [show k + (d + 1) + 1 = (k + d + 1) + 1 by omega, catchmentref11_Make.l0, hw, if_pos hg, e1]
    exact ih
def cnt (n M : Nat) : Nat := if 0 < n % M then n / M + 1 else n / M
theorem cnt_hi (n M : Nat) (hM : 0 < M) : n ≤ cnt n M * M := by
  have h1 := Nat.div_add_mod n M
  have h2 := Nat.mod_lt n hM
  have h3 : M * (n / M) = n / M * M := Nat.mul_comm _ _
  unfold cnt
  split
  · rw [Nat.add_mul, Nat.one_mul]; omega
  · omega
theorem cnt_lo (n M : Nat) (hM : 0 < M) (j : Nat) (hj : j < cnt n M) : j * M < n := by
  have h1 := Nat.div_add_mod n M
  have h3 : M * (n / M) = n / M * M := Nat.mul_comm _ _
  unfold cnt at hj
  split at hj
  · have h4 : j * M ≤ n / M * M := Nat.mul_le_mul_right _ (by omega)
    omega
  · have h4 : (j + 1) * M ≤ n / M * M := Nat.mul_le_mul_right _ (by omega)
    rw [Nat.add_mul, Nat.one_mul] at h4
    omega
theorem cnt_le (n M : Nat) (hM : 0 < M) : cnt n M ≤ n := by
  rcases Nat.lt_or_ge n (cnt n M) with h | h
  · have h1 := cnt_lo n M hM n h
    have h2 : n ≤ n * M := Nat.le_mul_of_pos_right n hM
    omega
  · exact h
theorem mx_nat (most : Int) (h : most < 9223372036854775808) : ∃ M : Nat, mx most 2 = (M : Int) ∧ 2 ≤ M ∧ M < 9223372036854775808 := by
  refine ⟨(mx most 2).toNat, ?_, ?_, ?_⟩ <;> (unfold mx; split <;> omega)
theorem leafMake_f (y : List S85) (most : Int) (M : Nat) (hx : mx most 2 = (M : Int)) (hM : 2 ≤ M) (hn : y.length ≤ 60) (k : Nat) (hk : 62 < k) : leaf_Make.f k y most = some (mk y (cnt y.length M) (cnt y.length M)) := by
  have hle := cnt_le y.length M (by omega)
  have hdv := Nat.div_le_self y.length M
  have ed : ((y.length : Int) / (M : Int)) = ((y.length / M : Nat) : Int) := rfl
  have em : ((y.length : Int) % (M : Int)) = ((y.length % M : Nat) : Int) := rfl
  obtain ⟨k, rfl⟩ : ∃ j, k = j + 1 := ⟨k - 1, by omega⟩
  have hloop := leaf_loop (y := y) (K := cnt y.length M) hn hle (cnt y.length M) 0 k (by omega) (by omega) (by omega)
  have hmk : mk y (cnt y.length M) 0 = [] := rfl
  rw [hmk] at hloop
  have hw0 : ∀ q : Nat, q ≤ 60 → wrap64 (q : Int) = (q : Int) := fun q hq => wrap64_id (by omega) (by omega)
  have hw : wrap64 ((y.length / M : Nat) : Int) = ((y.length / M : Nat) : Int) := hw0 _ (Nat.le_trans hdv hn)
  clear hw0
  have hw2 : wrap64 (((y.length / M : Nat) : Int) + 1) = ((y.length / M + 1 : Nat) : Int) := succ_nat _ (by omega)
  unfold leaf_Make.f
  rw [hx, ed, em, hw, hw2, if_neg (by omega)]
  by_cases h0 : 0 < y.length % M
  · have hc : cnt y.length M = y.length / M + 1 := if_pos h0
    rw [if_pos (show ((y.length % M : Nat) : Int) > 0 by omega), ← hc, leaf_Make.j0]
    exact hloop
  · have hc : cnt y.length M = y.length / M := if_neg h0
    rw [if_neg (show ¬ ((y.length % M : Nat) : Int) > 0 by omega), ← hc, leaf_Make.j0]
    exact hloop
theorem refMake_f (y : List S85) (most : Int) (M : Nat) (hx : mx most 2 = (M : Int)) (hM : 2 ≤ M) (hM2 : M < 9223372036854775808) (hn : y.length ≤ 60) (k : Nat) (hk : 62 < k) : catchmentref11_Make.f (k + 64) y most = some (mk y (cnt y.length M) (cnt y.length M)) := by
  have hle := cnt_le y.length M (by omega)
  have hloop := count_loop (y := y) (K := cnt y.length M) (M := M) hn hM2 (cnt_lo y.length M (by omega)) (cnt_hi y.length M (by omega)) hle [] (cnt y.length M) 0 (k + 62 - cnt y.length M) (by omega) (by omega)
  have href := ref_loop (y := y) (K := cnt y.length M) hn hle (cnt y.length M) 0 (k + 62 - cnt y.length M) (by omega) (by omega) (by omega)
  rw [Nat.mul_zero, Nat.zero_div] at href
  have hj : catchmentref11_Make.j0 (k + 64) y (M : Int) = some (mk y (cnt y.length M) (cnt y.length M)) := by
    rw [show k + 64 = (k + 62 - cnt y.length M + cnt y.length M + 1) + 1 by omega, catchmentref11_Make.j0]
    exact hloop.trans href
  unfold catchmentref11_Make.f
  unfold mx at hx
  by_cases h2 : most < 2
  · rw [if_pos h2] at hx ⊢
    rw [hx]
    exact hj
  · rw [if_neg h2] at hx ⊢
    rw [hx]
    exact hj
theorem rd_pc (y : List S85) (K i : Nat) (hi : i < K) (j : Nat) (hj : j < (pc y K i).length) : rd_T85 (pc y K i) (j : Int) = rd_T85 y ((y.length * i / K + j : Nat) : Int) := by
  have h1 := pc_len (y := y) i hi
  unfold rd_T85
  rw [Int.toNat_natCast, Int.toNat_natCast]
  rw [h1] at hj
  unfold pc
  generalize y.length * i / K = a at hj ⊢
  generalize y.length * (i + 1) / K = b at hj ⊢
  rw [List.getD_eq_getElem?_getD, List.getElem?_drop, List.getElem?_take, if_pos (by omega), List.getD_eq_getElem?_getD]
theorem adj_pc (y : List S85) (ha : Adj y) (K i : Nat) (hi : i < K) : Adj (pc y K i) := by
  intro j h1 h2
  rw [rd_pc y K i hi _ (by omega), rd_pc y K i hi _ h2]
  have h3 := pc_len (y := y) i hi
  have h4 := cuts (y := y) i hi
  have e : ∀ a : Nat, a + (j - 1) = a + j - 1 := fun a => by omega
  rw [e]
  refine ha _ ?_ ?_
  · generalize y.length * i / K = a
    omega
  · rw [h3] at h2
    generalize y.length * i / K = a at h2 h4 ⊢
    generalize y.length * (i + 1) / K = b at h2 h4
    omega
theorem rows_loop (l : List (List S85)) (hl : l.length < 1000000) (he : ∀ i : Nat, i < l.length → (rd_L2 l (i : Int)).length < 500) : ∀ (d i k : Nat), d = l.length - i → i ≤ l.length → d + 500 < k → catchmentref11_Same.l0 k l l (i : Int) = some true
  | d, i, 0, _, _, h => absurd h (by omega)
  | 0, i, k + 1, hd, hi, hk => by rw [catchmentref11_Same.l0, if_neg (by omega)]
  | d + 1, i, k + 1, hd, hi, hk => by
    have h1 := he i (by omega)
    rw [catchmentref11_Same.l0, if_pos (by omega), if_pos (by omega), if_pos (by omega), same_f _ (by omega) k (by omega), Option.bind_some, if_pos rfl, succ_nat i (by omega)]
    exact rows_loop l hl he d (i + 1) k (by omega) (by omega) (by omega)
theorem entries_f (l : List (List S85)) (h : l.flatten.length < 1000000) : leaf_Entries.f l = some l.flatten := by
  unfold leaf_Entries.f api_Entry_76.f api_Entry_76.total
  rw [← List.length_flatten, if_pos h]
  rfl
theorem blockRight_f (l : List S85) (M : Nat) (h1 : 1 ≤ l.length) (h2 : l.length ≤ M) (hl : l.length < 1000000) (ha : Adj l) (k : Nat) (hk : l.length < k) : block_Right.f k l (M : Int) = some true := by
  have hf : fold_Rises.f k l = some true := fold_loop l hl ha l.length 0 k (by omega) (by omega) hk
  unfold block_Right.f
  rw [if_pos (by omega), if_pos (by omega), hf]
  rfl
theorem right_loop (l : List (List S85)) (M : Nat) (hl : l.length < 1000000) (hf : l.flatten.length < 400) (hfa : Adj l.flatten) (he : ∀ i : Nat, i < l.length → 1 ≤ (rd_L2 l (i : Int)).length ∧ (rd_L2 l (i : Int)).length ≤ M ∧ (rd_L2 l (i : Int)).length < 400 ∧ Adj (rd_L2 l (i : Int))) : ∀ (d i k : Nat), d = l.length - i → i ≤ l.length → d + 500 < k → leaf_Right.l0 k l (M : Int) l (l.length : Int) (i : Int) = some true
  | d, i, 0, _, _, h => absurd h (by omega)
  | 0, i, k + 1, hd, hi, hk => by
    have hr : fold_Rises.f k l.flatten = some true := fold_loop _ (by omega) hfa l.flatten.length 0 k (by omega) (by omega) (by omega)
    rw [leaf_Right.l0, if_neg (by omega), entries_f l (by omega), Option.bind_some, hr]
    rfl
  | d + 1, i, k + 1, hd, hi, hk => by
    obtain ⟨h1, h2, h3, h4⟩ := he i (by omega)
    rw [leaf_Right.l0, if_pos (by omega), if_pos (by omega), if_pos (by omega), blockRight_f _ M h1 h2 (by omega) h4 k (by omega), Option.bind_some, if_pos rfl, succ_nat i (by omega)]
    exact right_loop l M hl hf hfa he d (i + 1) k (by omega) (by omega) (by omega)
theorem own_loop (y : List S85) (l : List (List S85)) (q : Nat) (x6 : Int) (hl : l.length < 1000) (he : ∀ i : Nat, i < l.length → q ≤ (rd_L2 l (i : Int)).length ∧ (rd_L2 l (i : Int)).length ≤ q + 1) (hq : q < 1000) (hfin : y.length = 0 ∨ wrap64 ((wrap64 ((l.length : Int) - 1)) * (mn x6 100)) < (y.length : Int)) : ∀ (d i k : Nat), d = l.length - i → i ≤ l.length → d + 100 < k → catchmentlaw11_LeafMakes.l0 k y l x6 (i : Int) = some true
  | d, i, 0, _, _, h => absurd h (by omega)
  | 0, i, k + 1, hd, hi, hk => by
    rw [catchmentlaw11_LeafMakes.l0, if_neg (by omega), hlive_ge (by omega), Option.bind_some, if_pos rfl]
    by_cases h0 : y.length = 0
    · rw [if_pos (by omega)]
    · rw [if_neg (by omega), decide_eq_true (hfin.resolve_left h0)]
  | d + 1, i, k + 1, hd, hi, hk => by
    obtain ⟨h1, h2⟩ := he i (by omega)
    obtain ⟨h3, h4⟩ := he 0 (by omega)
    have g0 : (rd_L2 l 0) = rd_L2 l ((0 : Nat) : Int) := rfl
    have w1 := succ_nat (rd_L2 l (i : Int)).length (by omega)
    have w2 := succ_nat (rd_L2 l ((0 : Nat) : Int)).length (by omega)
    have ih := own_loop y l q x6 hl he hq hfin d (i + 1) k (by omega) (by omega) (by omega)
    have w3 := succ_nat i (by omega)
    have g1 : ¬ ((rd_L2 l (i : Int)).length : Int) > (((rd_L2 l ((0 : Nat) : Int)).length + 1 : Nat) : Int) := by clear w1 w2 w3 ih hfin; omega
    have g2 : ¬ ((rd_L2 l ((0 : Nat) : Int)).length : Int) > (((rd_L2 l (i : Int)).length + 1 : Nat) : Int) := by clear w1 w2 w3 ih hfin; omega
    have g3 : (i : Int) < (l.length : Int) := by clear w1 w2 w3 ih hfin; omega
    have g4 : (0 : Int) ≤ (i : Int) := Int.natCast_nonneg _
    have g5 : (0 : Int) < (l.length : Int) := by clear w1 w2 w3 ih hfin; omega
    rw [catchmentlaw11_LeafMakes.l0, if_pos g3, if_pos g4, if_pos g5, g0, w2, if_neg g1, w1, if_neg g2, w3]
    exact ih
theorem LeafMakes_of (l : List S85) (most : Int) (hb : most < 9223372036854775808) : catchmentlaw11_LeafMakes.f 2000 l most = some true := by
  obtain ⟨M, hx, hM1, hM2⟩ := mx_nat most hb
  unfold catchmentlaw11_LeafMakes.f
  have hm : 0 ≤ mn (l.length : Int) 60 ∧ mn (l.length : Int) 60 ≤ (l.length : Int) ∧ mn (l.length : Int) 60 ≤ 60 := by
    unfold mn
    split <;> omega
  generalize mn (l.length : Int) 60 = m at hm
  rw [if_pos hm.1, if_pos hm.2.1]
  have hl : (l.take m.toNat).length ≤ 60 := by rw [List.length_take]; omega
  generalize l.take m.toNat = y at hl
  obtain ⟨b, h1, h2⟩ := rises_loop y (by omega) (y.length - 1) 1 2000 rfl (by omega) (by omega)
  have hb2 : catchmentref05_Rises.f 2000 y = some b := h1
  rw [Option.bind_some, hb2, Option.bind_some]
  cases b with
  | false => rw [if_neg (by decide), hlive_ge (by omega)]; rfl
  | true =>
    have ha : Adj y := fun j hj1 hj2 => h2 rfl j hj1 hj2
    have hK := cnt_le y.length M (by omega)
    have hhi := cnt_hi y.length M (by omega)
    have hlo := cnt_lo y.length M (by omega)
    rw [if_pos rfl, leafMake_f y most M hx hM1 hl 2000 (by omega), Option.bind_some, refMake_f y most M hx hM1 hM2 hl 1936 (by omega), Option.bind_some]
    generalize hKe : cnt y.length M = K at hK hhi hlo ⊢
    have hlen := mk_len y K K
    have hpc : ∀ i : Nat, i < K → rd_L2 (mk y K K) (i : Int) = pc y K i := fun i hi => mk_get y K K i hi
    have hflat : (mk y K K).flatten = y := by
      rcases Nat.eq_zero_or_pos K with h0 | h0
      · subst h0
        have : y = [] := List.eq_nil_of_length_eq_zero (by omega)
        subst this
        rfl
      · exact flat_all h0
    have hmax : ∀ i, i < K → 1 ≤ (pc y K i).length ∧ (pc y K i).length ≤ M ∧ (pc y K i).length < 400 ∧ Adj (pc y K i) := by
      intro i hi
      have e1 := (pc_even (y := y) i hi).1
      have e2 : 1 ≤ y.length / K := Nat.div_pos hK (by omega)
      have e3 : y.length * (i + 1) / K ≤ y.length * i / K + M := by
        rw [← Nat.add_mul_div_left _ _ (show 0 < K by omega)]
        exact Nat.div_le_div_right (by rw [Nat.mul_add, Nat.mul_one, Nat.mul_comm K M, Nat.mul_comm M K]; omega)
      have e4 := pc_len (y := y) i hi
      have e5 := (cuts (y := y) i hi).2
      refine ⟨Nat.le_trans e2 e1, ?_, ?_, adj_pc y ha K i hi⟩
      · rw [e4]; exact Nat.sub_le_of_le_add (Nat.le_trans e3 (Nat.le_of_eq (Nat.add_comm _ _)))
      · rw [e4]; exact Nat.lt_of_le_of_lt (Nat.sub_le _ _) (by omega)
    have hs : catchmentref11_Same.f 2000 (mk y K K) (mk y K K) = some true := by
      unfold catchmentref11_Same.f
      rw [if_pos rfl]
      exact rows_loop _ (by omega) (fun i hi => by rw [hpc i (by omega)]; have := hmax i (by omega); omega) (mk y K K).length 0 2000 (by omega) (by omega) (by omega)
    have hr : leaf_Right.f 2000 (mk y K K) (M : Int) = some true := by
      unfold leaf_Right.f
      exact right_loop _ M (by omega) (by rw [hflat]; omega) (by rw [hflat]; exact ha) (fun i hi => by rw [hpc i (by omega)]; exact hmax i (by omega)) (mk y K K).length 0 2000 (by omega) (by omega) (by omega)
    have he : leaf_Entries.f (mk y K K) = some y := by
      rw [entries_f _ (by rw [hflat]; omega), hflat]
    have hq : y.length / K < 1000 := Nat.lt_of_le_of_lt (Nat.div_le_self _ _) (by omega)
    have hfin : y.length = 0 ∨ wrap64 ((wrap64 (((mk y K K).length : Int) - 1)) * (mn (M : Int) 100)) < (y.length : Int) := by
      rcases Nat.eq_zero_or_pos K with h0 | h0
      · left
        subst h0
        omega
      · right
        have g1 := hlo (K - 1) (by omega)
        obtain ⟨mm, hmm, hmm2⟩ : ∃ mm : Nat, mn (M : Int) 100 = (mm : Int) ∧ mm ≤ M := by
          refine ⟨(mn (M : Int) 100).toNat, ?_, ?_⟩ <;> (unfold mn; split <;> omega)
        have g2 : (K - 1) * mm ≤ (K - 1) * M := Nat.mul_le_mul_left _ hmm2
        have g3 : (((K - 1) * mm : Nat) : Int) < (y.length : Int) := by omega
        have g4 : (((K - 1) * mm : Nat) : Int) < 9223372036854775808 := by omega
        rw [hlen, pred_nat K h0 (by omega), hmm, ← Int.natCast_mul (K - 1) mm, wrap64_id (Int.natCast_nonneg _) g4]
        exact g3
    have ho : catchmentlaw11_LeafMakes.l0 1999 y (mk y K K) (M : Int) 0 = some true :=
      own_loop y (mk y K K) (y.length / K) (M : Int) (by omega) (fun i hi => by rw [hpc i (by omega)]; exact pc_even i (by omega)) hq hfin (mk y K K).length 0 1999 (by omega) (by omega) (by omega)
    rw [hs, Option.bind_some, if_pos rfl, hx, hr, Option.bind_some, if_pos rfl, he, Option.bind_some, same_f y (by omega) 2000 (by omega), Option.bind_some, catchmentlaw11_LeafMakes.j0, if_neg (by decide)]
    exact ho
theorem LeafMakes : catchmentlaw11_LeafMakes.Pure := by
  intro l most _ h
  have hb : -9223372036854775808 ≤ most ∧ most ≤ 9223372036854775807 := by simpa [Lit.wf, IntKind.min, IntKind.max, IntKind.signed, IntKind.bits] using h
  exact ⟨2000, LeafMakes_of l most (by omega)⟩
end Go.Proofs.Ytpfikmchimlneaa.Pure
