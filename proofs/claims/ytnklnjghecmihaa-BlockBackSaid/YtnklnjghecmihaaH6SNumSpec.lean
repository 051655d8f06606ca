/- What the functions Num and TakeNum of the packages word and catchmentref03 answer: one plain function each, for both. No condition. -/
import Derived.Test.YtnklnjghecmihaaH6x5
import Derived.Test.YtnklnjghecmihaaH6x16
import Derived.Test.YtnklnjghecmihaaH6x30
import Derived.Test.YtnklnjghecmihaaH6x31
import Derived.Test.YtnklnjghecmihaaH6SWordSpec
import Derived.Laws.BitsLemmas
import Derived.Lib.EndianBits
set_option linter.unusedVariables false
set_option linter.unusedSimpArgs false
namespace Go.Proofs.Ytnklnjghecmihaa.NumSpec
open Go.RowKit Go.Proofs.Ytnklnjghecmihaa.H6 Go.Proofs.Ytnklnjghecmihaa.WordSpec Go.Proofs.YtnklnjghecmihaaW.PrintWords Go.Proofs.YtnklnjghecmihaaW.PrintLast Go.Proofs.YtnklnjghecmihaaW.PrintMore Go.Proofs.YtnklnjghecmihaaW.Mine Go.Proofs.YtnklnjghecmihaaW.Ord
/-- the bytes that a number is, the least ones first, seven bits a byte -/
def nl : Nat → Int → List Int
  | 0, n => [n]
  | f + 1, n => if n < 128 then [n] else (n % 128 + 128) :: nl f (n / 128)
def numS (n : Int) : ByteArray := if 0 ≤ n ∧ n ≤ 2147483647 then strOfNums (nl 4 n) else ⟨#[]⟩
theorem nl_length : ∀ f n, 1 ≤ (nl f n).length ∧ (nl f n).length ≤ f + 1
  | 0, n => by simp [nl]
  | f + 1, n => by
    have ih := nl_length f (n / 128)
    unfold nl
    split <;> simp <;> omega
theorem wrap64_id {n : Int} (h0 : 0 ≤ n) (h1 : n < 9223372036854775808) : wrap64 n = n := by unfold wrap64; omega
theorem num_loop : ∀ (f k : Nat) (n : Int) (acc : List Int), 0 ≤ n → n < 128 ^ (f + 1) → n ≤ 2147483647 → f < k → acc.length + f < 100 → word_Num.l0 k n acc = some (strOfNums (acc ++ nl f n))
  | f, 0, n, acc, _, _, _, h, _ => absurd h (by omega)
  | 0, k + 1, n, acc, h0, h1, h2, hk, ha => by
    simp only [word_Num.l0]
    rw [if_neg (by omega), if_pos (by omega), show n % 256 = n by omega]
    rfl
  | f + 1, k + 1, n, acc, h0, h1, h2, hk, ha => by
    have hp : (128 : Int) ^ (f + 1 + 1) = 128 ^ (f + 1) * 128 := Int.pow_succ ..
    simp only [word_Num.l0]
    unfold nl
    by_cases h : n < 128
    · rw [if_neg (by omega), if_pos (by omega), if_pos h, show n % 256 = n by omega]
    · rw [if_pos (by omega), if_pos (by omega), if_neg h, Int.tdiv_eq_ediv_of_nonneg h0, Int.tmod_eq_emod_of_nonneg h0, wrap64_id (by omega) (by omega), show (n % 128 + 128) % 256 = n % 128 + 128 by omega,
        num_loop f k (n / 128) (acc ++ [n % 128 + 128]) (by omega) (by omega) (by omega) (by omega) (by simp; omega), List.append_assoc]
      rfl
theorem num_f (k : Nat) (hk : 10 ≤ k) (n : Int) : word_Num.f k n = some (numS n) := by
  obtain ⟨k, rfl⟩ : ∃ m, k = m + 1 := ⟨k - 1, by omega⟩
  unfold word_Num.f numS
  by_cases h0 : n < 0
  · rw [if_pos h0, if_neg (by omega)]
    simp [word_Num.j0]
  · rw [if_neg h0]
    by_cases h1 : n > 2147483647
    · rw [if_neg (by omega)]
      simp [word_Num.j0, h1]
    · rw [if_pos ⟨by omega, by omega⟩]
      simp only [word_Num.j0]
      rw [if_neg (by simpa using h1)]
      exact num_loop 4 k n [] (by omega) (by omega) (by omega) (by omega) (by simp)
theorem refNum_loop : ∀ (f k : Nat) (n : Int), 0 ≤ n → n < 128 ^ (f + 1) → n ≤ 2147483647 → 2 * f + 2 ≤ k → f < 50 → catchmentref03_Num.f k n = some (strOfNums (nl f n))
  | f, 0, n, _, _, _, h, _ => absurd h (by omega)
  | f, 1, n, _, _, _, h, _ => absurd h (by omega)
  | 0, k + 2, n, h0, h1, h2, hk, hf => by
    simp only [catchmentref03_Num.f, catchmentref03_Num.j0]
    have : decide (n > 2147483647) = false := by simpa using h2
    rw [if_neg (by omega), this, if_neg (by decide), if_pos (by omega), show n % 256 = n by omega]
    rfl
  | f + 1, k + 2, n, h0, h1, h2, hk, hf => by
    have hp : (128 : Int) ^ (f + 1 + 1) = 128 ^ (f + 1) * 128 := Int.pow_succ ..
    simp only [catchmentref03_Num.f, catchmentref03_Num.j0]
    have hd : decide (n > 2147483647) = false := by simpa using h2
    rw [if_neg (by omega), hd, if_neg (by decide)]
    by_cases h : n < 128
    · rw [if_pos h, show n % 256 = n by omega]
      unfold nl
      rw [if_pos h]
    · have hl := nl_length f (n / 128)
      have e1 : wrap64 (Int.tmod n 128 + 128) % 256 = n % 128 + 128 := by rw [Int.tmod_eq_emod_of_nonneg h0, wrap64_id (by omega) (by omega)]; omega
      have e2 : wrap64 (Int.tdiv n 128) = n / 128 := by rw [Int.tdiv_eq_ediv_of_nonneg h0, wrap64_id (by omega) (by omega)]
      have e3 : nl (f + 1) n = (n % 128 + 128) :: nl f (n / 128) := by rw [nl, if_neg h]
      rw [if_neg h, Option.bind_some, e1, e2, refNum_loop f k (n / 128) (by omega) (by omega) (by omega) (by omega) (by omega), Option.bind_some, if_pos (by rw [strOf_size, strOf_size]; simp; omega), strOf_cons, e3]
theorem refNum_f (k : Nat) (hk : 10 ≤ k) (n : Int) : catchmentref03_Num.f k n = some (numS n) := by
  obtain ⟨k, rfl⟩ : ∃ m, k = m + 2 := ⟨k - 2, by omega⟩
  unfold numS
  by_cases h0 : n < 0
  · rw [if_neg (by omega)]
    simp [catchmentref03_Num.f, catchmentref03_Num.j0, h0]
  · by_cases h1 : n > 2147483647
    · rw [if_neg (by omega)]
      simp [catchmentref03_Num.f, catchmentref03_Num.j0, h0, h1]
    · rw [if_pos ⟨by omega, by omega⟩, refNum_loop 4 (k + 2) n (by omega) (by omega) (by omega) (by omega) (by omega)]
/-- the number that such bytes are -/
def val : List UInt8 → Int
  | [] => 0
  | b :: l => ((b.toNat : Int) % 128) + 128 * val l
theorem val_bound : ∀ l : List UInt8, 0 ≤ val l ∧ val l < 128 ^ l.length
  | [] => by simp [val]
  | b :: l => by
    have ih := val_bound l
    have hp : (128 : Int) ^ (l.length + 1) = 128 ^ l.length * 128 := Int.pow_succ ..
    simp only [val, List.length_cons]
    omega
theorem val_snoc : ∀ (l : List UInt8) (b : UInt8), val (l ++ [b]) = val l + ((b.toNat : Int) % 128) * 128 ^ l.length
  | [], b => by simp [val]
  | a :: l, b => by
    have hp : (128 : Int) ^ (l.length + 1) = 128 ^ l.length * 128 := Int.pow_succ ..
    rw [List.cons_append, val, val, val_snoc l b, List.length_cons, hp, ← Int.mul_assoc]
    generalize ((b.toNat : Int) % 128) * 128 ^ l.length = x
    omega
def fin (s : ByteArray) (i : Nat) : Int × ByteArray × Int :=
  if val (s.toList.take (i + 1)) > 2147483647 then (0, ⟨#[]⟩, 3) else if 0 < i ∧ bt s (i : Int) = 0 then (0, ⟨#[]⟩, 3) else (val (s.toList.take (i + 1)), s.extract (i + 1) s.size, 0)
def tn (s : ByteArray) : Nat → Nat → Int × ByteArray × Int
  | 0, i => (0, ⟨#[]⟩, 3)
  | d + 1, i => if s.size ≤ i then (0, ⟨#[]⟩, 5) else if bt s (i : Int) < 128 then fin s i else tn s d (i + 1)
theorem wraps_i64 (n : Int) (h₀ : 0 ≤ n) (h₁ : n < 2 ^ 63) : IntKind.i64.wrap n = n := by rw [IntKind.wrap_i64]; omega
theorem and127 (b : Int) (h0 : 0 ≤ b) (h1 : b < 256) : Go.bits .and .u8 b 127 = b % 128 := bits_mask .u8 8 (by decide) wraps_u8 7 (by decide) b h0 h1
theorem or_step (i : Nat) (hi : i ≤ 4) (n b : Int) (h0 : 0 ≤ n) (h1 : n < 128 ^ i) (hb0 : 0 ≤ b) (hb1 : b < 256) :
    Go.bits .or .i64 n (shl .i64 (wrap64 (Go.bits .and .u8 b 127)) (wrap64 (7 * (i : Int)))) = n + b % 128 * 128 ^ i := by
  rw [and127 b hb0 hb1, wrap64_id (n := b % 128) (by omega) (by omega), wrap64_id (n := 7 * (i : Int)) (by omega) (by omega)]
  have hb2 : 0 ≤ b % 128 ∧ b % 128 < 128 := by omega
  generalize b % 128 = m at hb2
  have hs : shl .i64 m (7 * (i : Int)) = m * 128 ^ i := by
    unfold shl
    match i, hi with
    | 0, _ | 1, _ | 2, _ | 3, _ | 4, _ => simp [IntKind.wrap_i64, IntKind.bits]; omega
  rw [hs]
  have hj : (m * 128 ^ i) % 2 ^ (7 * i) = 0 := by
    have : (128 : Int) ^ i = 2 ^ (7 * i) := by
      match i, hi with
      | 0, _ | 1, _ | 2, _ | 3, _ | 4, _ => decide
    rw [this, Int.mul_emod_left]
  have hn : n < 2 ^ (7 * i) := by
    have : (128 : Int) ^ i = 2 ^ (7 * i) := by
      match i, hi with
      | 0, _ | 1, _ | 2, _ | 3, _ | 4, _ => decide
    omega
  have hm0 : 0 ≤ m * 128 ^ i := by
    match i, hi with
    | 0, _ | 1, _ | 2, _ | 3, _ | 4, _ => omega
  have hm1 : m * 128 ^ i < 2 ^ 63 := by
    match i, hi with
    | 0, _ | 1, _ | 2, _ | 3, _ | 4, _ => omega
  have hn1 : n < 2 ^ 63 := by
    match i, hi with
    | 0, _ | 1, _ | 2, _ | 3, _ | 4, _ => omega
  exact Go.bits_join_low .i64 63 (by decide) wraps_i64 (7 * i) n (m * 128 ^ i) h0 hn hn1 hm0 hj hm1
theorem take_snoc (s : ByteArray) (i : Nat) (h : i < s.size) : val (s.toList.take (i + 1)) = val (s.toList.take i) + bt s (i : Int) % 128 * 128 ^ i := by
  have hl : s.toList.length = s.size := size_toList s
  rw [List.take_succ_eq_append_getElem (by omega), val_snoc, List.length_take, Nat.min_eq_left (by omega), bt_toList s i h]
theorem take_bound (s : ByteArray) (i : Nat) : 0 ≤ val (s.toList.take i) ∧ val (s.toList.take i) < 128 ^ i := by
  have h := val_bound (s.toList.take i)
  have hl : (s.toList.take i).length ≤ i := by rw [List.length_take]; omega
  have : (128 : Int) ^ (s.toList.take i).length ≤ 128 ^ i := by
    have := Nat.pow_le_pow_right (n := 128) (by decide) hl
    exact_mod_cast this
  omega
theorem pow128 {i : Nat} (h : i ≤ 5) : (128 : Int) ^ i ≤ 34359738368 := by
  match i, h with
  | 0, _ | 1, _ | 2, _ | 3, _ | 4, _ | 5, _ => decide
theorem takeNum_loop (s : ByteArray) (hs : s.size < 9223372036854775807) : ∀ (d i k : Nat), i + d = 5 → d < k → word_TakeNum.l0 k s (val (s.toList.take i)) (i : Int) = some (tn s d i)
  | d, i, 0, _, h => absurd h (by omega)
  | 0, i, k + 1, hd, hk => by
    simp only [word_TakeNum.l0, tn]
    rw [if_neg (by omega)]
  | d + 1, i, k + 1, hd, hk => by
    have q1 : (i : Int) < 5 := by omega
    simp only [word_TakeNum.l0, tn]
    rw [if_pos q1]
    by_cases h : s.size ≤ i
    · rw [if_pos (by omega), if_pos h]
    · have hb := bt_range s (i : Int)
      have ht := take_bound s i
      have e7 : wrap64 (7 * (i : Int)) = 7 * (i : Int) := wrap64_id (by omega) (by omega)
      have q2 : 0 ≤ wrap64 (7 * (i : Int)) := by rw [e7]; omega
      have e1 : wrap64 ((i : Int) + 1) = ((i + 1 : Nat) : Int) := by rw [wrap64_id (by omega) (by omega)]; omega
      have ha := take_snoc s i (by omega)
      have hor := or_step i (by omega) (val (s.toList.take i)) (bt s (i : Int)) ht.1 ht.2 hb.1 (by omega)
      rw [← ha] at hor
      rw [if_neg (by omega), if_neg h, if_pos (by omega), if_pos (by omega), if_pos q2, hor, e1, takeNum_loop s hs d (i + 1) k (by omega) (by omega)]
      by_cases hlt : bt s (i : Int) < 128
      · rw [if_pos hlt, if_pos hlt]
        obtain ⟨k, rfl⟩ : ∃ m, k = m + 1 := ⟨k - 1, by omega⟩
        have J : ∀ b : Bool, word_TakeNum.j1 (k + 1) s (val (s.toList.take (i + 1))) (i : Int) b = if b = true then some (0, (⟨#[]⟩ : ByteArray), 3) else some (val (s.toList.take (i + 1)), s.extract (i + 1) s.size, 0) := fun b => by
          rw [word_TakeNum.j1, e1, if_pos (show 0 ≤ ((i + 1 : Nat) : Int) by omega), if_pos (show ((i + 1 : Nat) : Int) ≤ (s.size : Int) by omega), Int.toNat_natCast]
        unfold fin
        by_cases hv : val (s.toList.take (i + 1)) > 2147483647
        · rw [if_pos hv, if_pos hv, J, if_pos rfl]
        · rw [if_neg hv, if_neg hv]
          by_cases hi : 0 < i
          · rw [if_pos (by omega), J]
            by_cases hz : bt s (i : Int) = 0
            · rw [if_pos (by simpa using hz), if_pos ⟨hi, hz⟩]
            · rw [if_neg (by simpa using hz), if_neg (fun x => hz x.2)]
          · rw [if_neg (by omega), J, if_neg (by decide), if_neg (fun x => hi x.1)]
      · rw [if_neg hlt, if_neg hlt]
theorem takeNum_f (k : Nat) (hk : 6 ≤ k) (s : ByteArray) (hs : s.size < 9223372036854775807) : word_TakeNum.f k s = some (tn s 5 0) := by
  unfold word_TakeNum.f
  exact takeNum_loop s hs 5 0 k rfl (by omega)
theorem nl_val : ∀ (pre : List UInt8) (f : Nat) (b : UInt8), pre.length ≤ f → (∀ c ∈ pre, 128 ≤ c.toNat) → b.toNat < 128 → ((nl f (val (pre ++ [b]))).map by_ = pre ++ [b] ↔ (pre = [] ∨ b.toNat ≠ 0))
  | [], f, b, hf, hp, hb => by
    have e : val ([] ++ [b]) = (b.toNat : Int) := by simp [val]; omega
    have e2 : by_ (b.toNat : Int) = b := by
      unfold by_
      simp
    rw [e]
    cases f with
    | zero => simp [nl, e2]
    | succ f => rw [nl, if_pos (by omega)]; simp [e2]
  | c :: pre, 0, b, hf, hp, hb => by simp at hf
  | c :: pre, f + 1, b, hf, hp, hb => by
    have hc : 128 ≤ c.toNat := hp c (by simp)
    have hc2 := c.toNat_lt
    have ih := nl_val pre f b (by simpa using hf) (fun x hx => hp x (by simp [hx])) hb
    have e : val (c :: pre ++ [b]) = ((c.toNat : Int) % 128) + 128 * val (pre ++ [b]) := rfl
    have hv := val_bound (pre ++ [b])
    have hsn := val_snoc pre b
    rw [e, nl]
    by_cases h0 : val (pre ++ [b]) = 0
    · rw [h0, if_pos (by omega)]
      have hz : b.toNat = 0 := by
        have hpos : (0 : Int) < 128 ^ pre.length := Int.pow_pos (by decide)
        have hp0 := (val_bound pre).1
        have : (b.toNat : Int) % 128 * 128 ^ pre.length ≤ 0 := by omega
        rcases Nat.eq_zero_or_pos b.toNat with hz | hz
        · exact hz
        · have h1 : 0 < (b.toNat : Int) % 128 := by omega
          have := Int.mul_pos h1 hpos
          omega
      constructor
      · intro h
        have := congrArg List.length h
        simp at this
      · rintro (h | h)
        · simp at h
        · exact absurd hz h
    · rw [if_neg (by omega), List.map_cons, show (((c.toNat : Int) % 128) + 128 * val (pre ++ [b])) / 128 = val (pre ++ [b]) by omega,
        show (((c.toNat : Int) % 128) + 128 * val (pre ++ [b])) % 128 + 128 = (c.toNat : Int) by omega]
      have e2 : by_ (c.toNat : Int) = c := by
        unfold by_
        simp
      rw [e2]
      constructor
      · intro h
        have h' : (nl f (val (pre ++ [b]))).map by_ = pre ++ [b] := (List.cons.inj h).2
        rcases ih.1 h' with h1 | h1
        · subst h1
          right
          intro hz
          apply h0
          simp [val, hz]
        · exact .inr h1
      · rintro (h | h)
        · simp at h
        · rw [ih.2 (.inr h)]
          rfl
theorem horner (s : ByteArray) (e : Nat) (he : e ≤ 4) (hes : e < s.size) : ∀ (j k : Nat), j ≤ e + 1 → j < k → 
    catchmentref03_TakeNum.l1 k s (e : Int) (val ((s.toList.take (e + 1)).drop j)) ((j : Int) - 1) = catchmentref03_TakeNum.l1 (k - j) s (e : Int) (val (s.toList.take (e + 1))) (-1)
  | j, 0, _, h => absurd h (by omega)
  | 0, k + 1, hj, hk => rfl
  | j + 1, k + 1, hj, hk => by
    have hl : s.toList.length = s.size := size_toList s
    have hv := val_bound ((s.toList.take (e + 1)).drop (j + 1))
    have hlen : ((s.toList.take (e + 1)).drop (j + 1)).length ≤ 4 := by rw [List.length_drop, List.length_take]; omega
    have hp : (128 : Int) ^ ((s.toList.take (e + 1)).drop (j + 1)).length ≤ 268435456 := by
      generalize ((s.toList.take (e + 1)).drop (j + 1)).length = m at hlen
      match m, hlen with
      | 0, _ | 1, _ | 2, _ | 3, _ | 4, _ => decide
    have hb := bt_range s (j : Int)
    have hd : (s.toList.take (e + 1)).drop j = (s.toList[j]'(by omega)) :: (s.toList.take (e + 1)).drop (j + 1) := by
      rw [List.drop_eq_getElem_cons (by rw [List.length_take]; omega), List.getElem_take]
    have hvd : val ((s.toList.take (e + 1)).drop j) = bt s (j : Int) % 128 + 128 * val ((s.toList.take (e + 1)).drop (j + 1)) := by
      rw [hd, val, ← bt_toList s j (by omega)]
    have ih := horner s e he hes j k (by omega) (by omega)
    have e0 : ((j + 1 : Nat) : Int) - 1 = (j : Int) := by omega
    rw [e0]
    generalize val ((s.toList.take (e + 1)).drop (j + 1)) = v at hv hvd ⊢
    have e1 : wrap64 (wrap64 (v * 128) + Int.tmod (wrap64 (bt s (j : Int))) 128) = val ((s.toList.take (e + 1)).drop j) := by
      rw [wrap64_id (n := v * 128) (by omega) (by omega), wrap64_id (n := bt s (j : Int)) (by omega) (by omega), Int.tmod_eq_emod_of_nonneg hb.1, wrap64_id (by omega) (by omega), hvd]
      omega
    have e2 : wrap64 ((j : Int) - 1) = (j : Int) - 1 := by unfold wrap64; omega
    rw [catchmentref03_TakeNum.l1, if_pos (by omega), if_pos (by omega), if_pos (by omega), e1, e2, ih, show k + 1 - (j + 1) = k - j by omega]
theorem pre_of {s : ByteArray} {i : Nat} (hi : i ≤ s.size) (h : ∀ j : Nat, j < i → 128 ≤ bt s (j : Int)) : ∀ c ∈ s.toList.take i, 128 ≤ c.toNat := by
  have hl : s.toList.length = s.size := size_toList s
  intro c hc
  obtain ⟨j, hj, rfl⟩ := List.mem_iff_getElem.1 hc
  have hj' : j < i := by rw [List.length_take] at hj; omega
  rw [List.getElem_take]
  have := h j hj'
  rw [bt_toList s j (by omega)] at this
  omega
theorem refTake_fin (s : ByteArray) (e k : Nat) (hk : 30 ≤ k) (he : e ≤ 4) (hes : e < s.size) (hs : s.size < 9223372036854775807) (hp : ∀ j : Nat, j < e → 128 ≤ bt s (j : Int)) (hlt : bt s (e : Int) < 128) :
    catchmentref03_TakeNum.j1 k s (e : Int) false = some (fin s e) := by
  have hl : s.toList.length = s.size := size_toList s
  obtain ⟨k, rfl⟩ : ∃ m, k = m + 1 := ⟨k - 1, by omega⟩
  have hd0 : (s.toList.take (e + 1)).drop (e + 1) = [] := by rw [List.drop_eq_nil_iff, List.length_take]; omega
  have hh := horner s e he hes (e + 1) k (by omega) (by omega)
  rw [hd0, show val [] = 0 from rfl, show ((e + 1 : Nat) : Int) - 1 = (e : Int) by omega] at hh
  rw [catchmentref03_TakeNum.j1, if_neg (by decide), if_neg (by omega), if_neg (by omega), hh]
  obtain ⟨m, hm⟩ : ∃ m, k - (e + 1) = m + 1 := ⟨k - (e + 1) - 1, by omega⟩
  have e1 : wrap64 ((e : Int) + 1) = ((e + 1 : Nat) : Int) := by rw [wrap64_id (by omega) (by omega)]; omega
  rw [hm, catchmentref03_TakeNum.l1, if_neg (by omega), refNum_f m (by omega), Option.bind_some, e1, if_pos (by omega), if_pos (by omega), Int.toNat_natCast]
  have hsplit : s.toList.take (e + 1) = s.toList.take e ++ [s.toList[e]'(by omega)] := List.take_succ_eq_append_getElem (by omega)
  have hbe := bt_toList s e hes
  have hpre := pre_of (by omega) hp
  have hv := val_bound (s.toList.take (e + 1))
  have hx : (s.extract 0 (e + 1)).toList = s.toList.take (e + 1) := by rw [toList_extract, List.drop_zero]
  rw [hx]
  unfold fin
  by_cases hbig : val (s.toList.take (e + 1)) > 2147483647
  · rw [if_pos hbig, if_neg]
    unfold numS
    rw [if_neg (by omega), toList_empty]
    intro h
    have := congrArg List.length h
    rw [List.length_take, List.length_nil] at this
    omega
  · rw [if_neg hbig]
    have hn : (numS (val (s.toList.take (e + 1)))).toList = (nl 4 (val (s.toList.take (e + 1)))).map by_ := by
      unfold numS
      rw [if_pos ⟨hv.1, by omega⟩, strOf_toList]
    have hiff := nl_val (s.toList.take e) 4 (s.toList[e]'(by omega)) (by rw [List.length_take]; omega) hpre (by omega)
    rw [← hsplit] at hiff
    rw [hn]
    by_cases hc : 0 < e ∧ bt s (e : Int) = 0
    · rw [if_pos hc, if_neg]
      intro h
      rcases hiff.1 h with h1 | h1
      · have := congrArg List.length h1
        rw [List.length_take, List.length_nil] at this
        omega
      · omega
    · rw [if_neg hc, if_pos (hiff.2 (by
        by_cases he0 : e = 0
        · left; rw [he0]; rfl
        · right
          intro hz
          exact hc ⟨by omega, by omega⟩))]
theorem refTakeNum_loop (s : ByteArray) (hs : s.size < 9223372036854775807) : ∀ (d i k : Nat), i + d = 5 → 2 * d + 40 < k → (∀ j : Nat, j < i → 128 ≤ bt s (j : Int)) → i ≤ s.size → catchmentref03_TakeNum.l0 k s (i : Int) = some (tn s d i)
  | d, i, 0, _, h, _, _ => absurd h (by omega)
  | 0, i, k + 1, hd, hk, hp, hi => by
    rw [catchmentref03_TakeNum.l0, tn]
    obtain ⟨k, rfl⟩ : ∃ m, k = m + 1 := ⟨k - 1, by omega⟩
    have e : catchmentref03_TakeNum.j1 (k + 1) s (i : Int) false = some (0, ⟨#[]⟩, 3) := by rw [catchmentref03_TakeNum.j1, if_neg (by decide), if_pos (by omega)]
    by_cases h : (i : Int) < (s.size : Int)
    · rw [if_pos h, if_neg (by omega), e]
    · rw [if_neg h, e]
  | d + 1, i, k + 1, hd, hk, hp, hi => by
    rw [catchmentref03_TakeNum.l0, tn]
    by_cases h : s.size ≤ i
    · rw [if_neg (by omega), if_pos h]
      obtain ⟨k, rfl⟩ : ∃ m, k = m + 1 := ⟨k - 1, by omega⟩
      rw [catchmentref03_TakeNum.j1, if_neg (by decide), if_neg (by omega), if_pos (by omega)]
    · rw [if_pos (by omega), if_pos (by omega), if_pos (by omega), if_neg h]
      have e1 : wrap64 ((i : Int) + 1) = ((i + 1 : Nat) : Int) := by rw [wrap64_id (by omega) (by omega)]; omega
      by_cases hlt : bt s (i : Int) < 128
      · rw [if_pos hlt, show decide (bt s (i : Int) ≥ 128) = false from decide_eq_false (by omega), refTake_fin s i k (by omega) (by omega) (by omega) hs hp hlt]
      · obtain ⟨k, rfl⟩ : ∃ m, k = m + 1 := ⟨k - 1, by omega⟩
        rw [show decide (bt s (i : Int) ≥ 128) = true from decide_eq_true (by omega), catchmentref03_TakeNum.j1, if_pos rfl, if_neg hlt, e1, refTakeNum_loop s hs d (i + 1) k (by omega) (by omega) (fun j hj => by
          rcases Nat.lt_or_ge j i with h1 | h1
          · exact hp j h1
          · rw [show j = i by omega]; omega) (by omega)]
theorem refTakeNum_f (k : Nat) (hk : 60 ≤ k) (s : ByteArray) (hs : s.size < 9223372036854775807) : catchmentref03_TakeNum.f k s = some (tn s 5 0) := by
  unfold catchmentref03_TakeNum.f
  exact refTakeNum_loop s hs 5 0 k rfl (by omega) (fun j hj => absurd hj (by omega)) (by omega)
theorem tn_nonneg (s : ByteArray) : ∀ (d i : Nat), 0 ≤ (tn s d i).1
  | 0, i => by simp [tn]
  | d + 1, i => by
    rw [tn]
    split
    · simp
    · split
      · unfold fin
        split
        · simp
        · split
          · simp
          · exact (val_bound _).1
      · exact tn_nonneg s d (i + 1)
end Go.Proofs.Ytnklnjghecmihaa.NumSpec
