/- For every two texts the law KeyBetween answers true: no condition beyond what a Go value of these types can be. -/
import Derived.Test.YtdlhiadekgnieaaQ1x16
import Derived.Test.YtdlhiadekgnieaaQ1x15
import Derived.Test.YtdlhiadekgnieaaQ1x7
import Derived.Test.YtdlhiadekgnieaaQ1x3
import Derived.Test.YtdlhiadekgnieaaKeySpec
set_option linter.unusedVariables false
set_option linter.unusedSimpArgs false
namespace Go.Proofs.Ytdlhiadekgnieaa.Pure
open Go.RowKit Go.Proofs.Ytdlhiadekgnieaa.Q1 Go.Proofs.Ytdlhiadekgnieaa.KeySpec Go.Proofs.YtdlhiadekgnieaaW.PrintWords Go.Proofs.YtdlhiadekgnieaaW.PrintLast Go.Proofs.YtdlhiadekgnieaaW.Ord Go.Proofs.YtdlhiadekgnieaaW.Mine
/-- how many bytes two texts begin with alike -/
def lcp : List UInt8 → List UInt8 → Nat
  | x :: a, y :: b => if x = y then lcp a b + 1 else 0
  | _, _ => 0
theorem lcp_left : ∀ a b, lcp a b ≤ a.length
  | [], _ => by simp [lcp]
  | _ :: _, [] => by simp [lcp]
  | x :: a, y :: b => by
    have := lcp_left a b
    simp only [lcp, List.length_cons]
    split <;> omega
theorem lcp_right : ∀ a b, lcp a b ≤ b.length
  | [], _ => by simp [lcp]
  | _ :: _, [] => by simp [lcp]
  | x :: a, y :: b => by
    have := lcp_right a b
    simp only [lcp, List.length_cons]
    split <;> omega
theorem lcp_take : ∀ a b : List UInt8, a.take (lcp a b) = b.take (lcp a b)
  | [], _ => by simp [lcp]
  | _ :: _, [] => by simp [lcp]
  | x :: a, y :: b => by
    have := lcp_take a b
    simp only [lcp]
    split
    · rename_i h
      subst h
      simp [this]
    · simp
theorem lcp_same : ∀ (a b : List UInt8) (i : Nat) (ha : i < a.length) (hb : i < b.length), i < lcp a b → a[i] = b[i]
  | [], _, _, ha, _, _ => by simp at ha
  | _ :: _, [], _, _, hb, _ => by simp at hb
  | x :: a, y :: b, i, ha, hb, h => by
    simp only [lcp] at h
    split at h
    · rename_i e
      cases i with
      | zero => simpa using e
      | succ i => simpa using lcp_same a b i (by simpa using ha) (by simpa using hb) (by omega)
    · omega
theorem lcp_ne : ∀ (a b : List UInt8) (ha : lcp a b < a.length) (hb : lcp a b < b.length), a[lcp a b] ≠ b[lcp a b]
  | [], _, ha, _ => by simp at ha
  | _ :: _, [], _, hb => by simp at hb
  | x :: a, y :: b, ha, hb => by
    by_cases e : x = y
    · have e2 : lcp (x :: a) (y :: b) = lcp a b + 1 := by simp [lcp, e]
      have h1 : lcp a b < a.length := by rw [e2] at ha; simpa using ha
      have h2 : lcp a b < b.length := by rw [e2] at hb; simpa using hb
      have := lcp_ne a b h1 h2
      simpa [e2] using this
    · have e2 : lcp (x :: a) (y :: b) = 0 := by simp [lcp, e]
      simpa [e2] using e
theorem L_lcp : ∀ {a b : List UInt8}, L a b → lcp a b < b.length
  | a, [], h => absurd h L_nil_right
  | [], _ :: _, _ => by simp [lcp]
  | x :: a, y :: b, h => by
    rw [L_cons] at h
    rcases h with h | ⟨rfl, h⟩
    · have : x ≠ y := by rintro rfl; exact UInt8.lt_irrefl _ h
      simp [lcp, this]
    · have := L_lcp h
      simp [lcp, this]
theorem L_take : ∀ {a b : List UInt8}, L a b → L a (b.take (lcp a b + 1))
  | a, [], h => absurd h L_nil_right
  | [], _ :: _, _ => L_nil_left.2 (by simp)
  | x :: a, y :: b, h => by
    rw [L_cons] at h
    rw [List.take_succ_cons, L_cons]
    rcases h with h | ⟨rfl, h⟩
    · exact .inl h
    · exact .inr ⟨rfl, by simpa [lcp] using L_take h⟩
theorem not_L_take : ∀ (a b : List UInt8) (m : Nat), m ≤ lcp a b → ¬ L a (b.take m)
  | a, b, 0, _ => by simpa using L_nil_right
  | [], b, m + 1, h => by simp [lcp] at h
  | _ :: _, [], m + 1, h => by simp [lcp] at h
  | x :: a, y :: b, m + 1, h => by
    simp only [lcp] at h
    split at h
    · rename_i e
      subst e
      rw [List.take_succ_cons, L_cons]
      rintro (h2 | ⟨_, h2⟩)
      · exact UInt8.lt_irrefl _ h2
      · exact not_L_take a b m (by omega) h2
    · omega
theorem not_L_self : ∀ (b : List UInt8) (m : Nat), ¬ L b (b.take m)
  | b, 0 => by simpa using L_nil_right
  | [], m + 1 => by simpa using L_nil_right
  | x :: b, m + 1 => by
    rw [List.take_succ_cons, L_cons]
    rintro (h2 | ⟨_, h2⟩)
    · exact UInt8.lt_irrefl _ h2
    · exact not_L_self b m h2
theorem shared_loop (a b : ByteArray) (ha : a.size ≤ 140737488351232) (hb : b.size ≤ 140737488351232) (d : Nat) : ∀ (k i : Nat), i ≤ lcp a.toList b.toList → lcp a.toList b.toList - i ≤ d → d < k →
    key_Shared.l0 k a b ((min a.size b.size : Nat) : Int) ((min a.size b.size : Nat) : Int) (i : Int) = some ((lcp a.toList b.toList : Nat) : Int) := by
  have h1 := lcp_left a.toList b.toList
  have h2 := lcp_right a.toList b.toList
  rw [size_toList] at h1 h2
  induction d with
  | zero =>
    intro k i hi hd hk
    obtain ⟨k, rfl⟩ : ∃ m, k = m + 1 := ⟨k - 1, by omega⟩
    have e : i = lcp a.toList b.toList := by omega
    simp only [key_Shared.l0]
    by_cases h : (i : Int) < ((min a.size b.size : Nat) : Int)
    · have h3 : i < a.size := by omega
      have h4 : i < b.size := by omega
      rw [if_pos h, if_pos (by omega), if_pos (by omega), if_pos (by omega), bt_toList a i h3, bt_toList b i h4]
      have hne := lcp_ne a.toList b.toList (by rw [size_toList]; omega) (by rw [size_toList]; omega)
      rw [if_neg (by
        intro h5
        apply hne
        have h6 : a.toList[i]'(by rw [size_toList]; exact h3) = b.toList[i]'(by rw [size_toList]; exact h4) := UInt8.toNat_inj.1 (by exact_mod_cast h5)
        simpa [← e] using h6), e]
    · rw [if_neg h]
      have : min a.size b.size = lcp a.toList b.toList := by omega
      rw [this]
  | succ d ih =>
    intro k i hi hd hk
    by_cases e : i = lcp a.toList b.toList
    · exact ih k i hi (by omega) (by omega)
    · obtain ⟨k, rfl⟩ : ∃ m, k = m + 1 := ⟨k - 1, by omega⟩
      have h3 : i < a.size := by omega
      have h4 : i < b.size := by omega
      have hs := lcp_same a.toList b.toList i (by rw [size_toList]; exact h3) (by rw [size_toList]; exact h4) (by omega)
      have hw : wrap64 ((i : Int) + 1) = ((i + 1 : Nat) : Int) := by unfold wrap64; omega
      simp only [key_Shared.l0]
      rw [if_pos (by omega), if_pos (by omega), if_pos (by omega), if_pos (by omega), bt_toList a i h3, bt_toList b i h4, if_pos (by rw [hs]), hw]
      exact ih k (i + 1) (by omega) (by omega) (by omega)
theorem mn_sizes (a b : Nat) : mn (a : Int) (b : Int) = ((min a b : Nat) : Int) := by unfold mn; split <;> omega
theorem shared_f (k : Nat) (a b : ByteArray) (ha : a.size ≤ 140737488351232) (hb : b.size ≤ 140737488351232) (hk : a.size + 1 ≤ k) : key_Shared.f k a b = some ((lcp a.toList b.toList : Nat) : Int) := by
  unfold key_Shared.f
  rw [mn_sizes]
  have h1 := lcp_left a.toList b.toList
  rw [size_toList] at h1
  exact shared_loop a b ha hb (lcp a.toList b.toList) k 0 (by omega) (by omega) (by omega)
theorem between_f (k : Nat) (a b : ByteArray) (ha : a.size ≤ 140737488351232) (hb : b.size ≤ 140737488351232) (hk : a.size + 1 ≤ k) :
    key_Between.f k a b = some (if L a.toList b.toList then b.extract 0 (lcp a.toList b.toList + 1) else ⟨#[]⟩) := by
  unfold key_Between.f strings_Compare.f
  simp only [Option.bind_some]
  by_cases h : L a.toList b.toList
  · have c : ¬ (Lib.compareBytes a.data.toList b.data.toList ≥ 0) := fun h3 => (compare_ge _ _).1 h3 (by rw [← toList_data, ← toList_data]; exact h)
    have hs := shared_f k a b ha hb hk
    have h2 := L_lcp h
    rw [size_toList] at h2
    rw [if_pos h]
    generalize lcp a.toList b.toList = n at hs h2 ⊢
    rw [if_neg c, hs]
    clear c hs h
    rw [Option.bind_some]
    have hw : wrap64 ((n : Int) + 1) = ((n + 1 : Nat) : Int) := by unfold wrap64; omega
    have q1 : 0 ≤ ((n + 1 : Nat) : Int) := by omega
    have q2 : ((n + 1 : Nat) : Int) ≤ (b.size : Int) := by omega
    rw [hw, if_pos q1, if_pos q2, Int.toNat_natCast]
  · have c : Lib.compareBytes a.data.toList b.data.toList ≥ 0 := (compare_ge _ _).2 (by rw [← toList_data, ← toList_data]; exact h)
    rw [if_pos c, if_neg h]
theorem refBetween_loop (a b : ByteArray) (hb : b.size ≤ 140737488351232) (h : L a.toList b.toList) (d : Nat) : ∀ (k i : Nat), i ≤ lcp a.toList b.toList + 1 → lcp a.toList b.toList + 1 - i ≤ d → d < k →
    catchmentref02_Between.l0 k a b (i : Int) = some (b.extract 0 (lcp a.toList b.toList + 1)) := by
  have h2 := L_lcp h
  rw [size_toList] at h2
  have hx : ∀ m : Nat, (b.extract 0 ((m : Int)).toNat).toList = b.toList.take m := by
    intro m
    rw [toList_extract]
    simp
  induction d with
  | zero =>
    intro k i hi hd hk
    obtain ⟨k, rfl⟩ : ∃ m, k = m + 1 := ⟨k - 1, by omega⟩
    have e : i = lcp a.toList b.toList + 1 := by omega
    subst e
    simp only [catchmentref02_Between.l0]
    rw [if_pos (by omega), if_pos h, if_pos (by omega), hx, if_pos (L_take h)]
    rfl
  | succ d ih =>
    intro k i hi hd hk
    by_cases e : i = lcp a.toList b.toList + 1
    · exact ih k i hi (by omega) (by omega)
    · obtain ⟨k, rfl⟩ : ∃ m, k = m + 1 := ⟨k - 1, by omega⟩
      have hw : wrap64 ((i : Int) + 1) = ((i + 1 : Nat) : Int) := by unfold wrap64; omega
      simp only [catchmentref02_Between.l0]
      rw [if_pos (by omega), if_pos h, if_pos (by omega), hx, if_neg (not_L_take _ _ i (by omega)), hw]
      exact ih k (i + 1) (by omega) (by omega) (by omega)
theorem live_ge {k : Nat} (h : 10 ≤ k) : catchmentlaw02_live.f k = some true := by
  obtain ⟨m, rfl⟩ : ∃ m, k = m + 10 := ⟨k - 10, by omega⟩
  exact live_f m
theorem KeyBetween : catchmentlaw02_KeyBetween.Pure := by
  intro a b ha hb
  obtain ⟨K, hK⟩ : ∃ K : Nat, a.size + b.size + 20 ≤ K := ⟨_, Nat.le_refl _⟩
  refine ⟨K + 1 + 1, ?_⟩
  unfold catchmentlaw02_KeyBetween.f
  have hj : ∀ c : Bool, catchmentlaw02_KeyBetween.j0 (K + 1 + 1) a b c = some true := by
    intro c
    simp only [catchmentlaw02_KeyBetween.j0]
    cases c
    · rw [if_neg (by decide), between_f (K + 1) a b ha hb (by omega), shared_f (K + 1) a b ha hb (by omega)]
      simp only [Option.bind_some]
      have h1 := lcp_left a.toList b.toList
      have h2 := lcp_right a.toList b.toList
      rw [size_toList] at h1 h2
      have hj1 : catchmentlaw02_KeyBetween.j1 (K + 1) a b (if L a.toList b.toList then b.extract 0 (lcp a.toList b.toList + 1) else ⟨#[]⟩) ((lcp a.toList b.toList : Nat) : Int) false = some true := by
        simp only [catchmentlaw02_KeyBetween.j1]
        rw [if_neg (by decide), live_ge (by omega)]
        simp only [Option.bind_some, if_true]
        by_cases h : L a.toList b.toList
        · have h3 := L_lcp h
          rw [size_toList] at h3
          have hr := refBetween_loop a b hb h (lcp a.toList b.toList) K 1 (by omega) (by omega) (by omega)
          have hw : wrap64 ((lcp a.toList b.toList : Int) + 1) = ((lcp a.toList b.toList + 1 : Nat) : Int) := by unfold wrap64; omega
          have hx : (b.extract 0 (lcp a.toList b.toList + 1)).toList = b.toList.take (lcp a.toList b.toList + 1) := by
            rw [toList_extract]
            simp
          have hsz : (b.extract 0 (lcp a.toList b.toList + 1)).size = lcp a.toList b.toList + 1 := by
            rw [← size_toList, hx, List.length_take, size_toList]
            omega
          rw [if_pos h, if_pos h]
          unfold catchmentref02_Between.f
          have hr' : catchmentref02_Between.l0 K a b 1 = _ := hr
          rw [hr']
          simp only [Option.bind_some, if_true]
          rw [hx, if_pos (L_take h), if_neg (not_L_self _ _), hsz, hw]
          simp
        · rw [if_neg h, if_neg h, toList_empty]
          rfl
      rw [if_neg (by omega), if_neg (by omega), if_neg (by omega), if_pos (by omega), if_pos (by omega), if_pos (by omega)]
      have hx : ∀ (c : ByteArray) (m : Nat), (c.extract 0 ((m : Int)).toNat).toList = c.toList.take m := by
        intro c m
        rw [toList_extract]
        simp
      rw [hx, hx, if_pos (lcp_take _ _)]
      by_cases h5 : ((lcp a.toList b.toList : Nat) : Int) < (a.size : Int)
      · rw [if_pos h5]
        by_cases h6 : ((lcp a.toList b.toList : Nat) : Int) < (b.size : Int)
        · rw [if_pos h6]
          have hne := lcp_ne a.toList b.toList (by rw [size_toList]; omega) (by rw [size_toList]; omega)
          rw [bt_toList a _ (by omega), bt_toList b _ (by omega)]
          have e : (((a.toList[lcp a.toList b.toList]'(by rw [size_toList]; omega)).toNat : Int) == ((b.toList[lcp a.toList b.toList]'(by rw [size_toList]; omega)).toNat : Int)) = false := by
            rw [beq_eq_false_iff_ne]
            intro h7
            exact hne (UInt8.toNat_inj.1 (by exact_mod_cast h7))
          rw [e]
          exact hj1
        · rw [if_neg h6]
          exact hj1
      · rw [if_neg h5]
        exact hj1
    · rw [if_pos rfl, live_ge (by omega)]
      rfl
  split
  · exact hj _
  · exact hj _
end Go.Proofs.Ytdlhiadekgnieaa.Pure
