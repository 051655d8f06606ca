/- What the functions of the packages word and catchmentref03 answer, as plain functions: numbers of eight bytes, and what becomes of them. No condition. -/
import Derived.Test.YtpfikmchimlneaaM3P0
import Derived.Test.YtpfikmchimlneaaM3V0
import Derived.Laws.BitsLemmas
set_option linter.unusedVariables false
set_option linter.unusedSimpArgs false
namespace Go.Proofs.Ytpfikmchimlneaa.WordSpec
open Go.RowKit Go.Proofs.Ytpfikmchimlneaa.M3 Go.Proofs.YtpfikmchimlneaaW.PrintWords Go.Proofs.YtpfikmchimlneaaW.PrintLast Go.Proofs.YtpfikmchimlneaaW.PrintMore Go.Proofs.YtpfikmchimlneaaW.Mine Go.Proofs.YtpfikmchimlneaaW.Ord
theorem wraps_u64 (n : Int) (h₀ : 0 ≤ n) (h₁ : n < 2 ^ 64) : IntKind.u64.wrap n = n := by
  simp [IntKind.wrap, IntKind.signed, IntKind.bits]
  omega
theorem wrap_u64 (n : Int) : IntKind.u64.wrap n = n % 18446744073709551616 := by
  simp [IntKind.wrap, IntKind.signed, IntKind.bits]
theorem or_join (i : Nat) {x y : Int} (hx₀ : 0 ≤ x) (hx : x % 2 ^ i = 0) (hx₁ : x < 2 ^ 64) (hy₀ : 0 ≤ y) (hy : y < 2 ^ i) (hy₁ : y < 2 ^ 64) : Go.bits .or .u64 x y = x + y :=
  bits_join .u64 64 (by decide) wraps_u64 i x y hx₀ hx hx₁ hy₀ hy hy₁
/-- the number that bytes are, the greatest ones first -/
def num (l : List UInt8) : Int := l.foldl (fun n b => n * 256 + (b.toNat : Int)) 0
theorem num_snoc (l : List UInt8) (b : UInt8) : num (l ++ [b]) = num l * 256 + (b.toNat : Int) := by simp [num]
theorem num_take (l : List UInt8) (i : Nat) (h : i < l.length) : num (l.take (i + 1)) = num (l.take i) * 256 + ((l[i]).toNat : Int) := by
  rw [List.take_succ_eq_append_getElem h, num_snoc]
theorem num_bound (l : List UInt8) : ∀ i : Nat, 0 ≤ num (l.take i) ∧ num (l.take i) < 256 ^ i
  | 0 => by simp [num]
  | i + 1 => by
    have ih := num_bound l i
    by_cases h : i < l.length
    · rw [num_take l i h]
      have hb := (l[i]).toNat_lt
      have : (256 : Int) ^ (i + 1) = 256 ^ i * 256 := Int.pow_succ ..
      omega
    · have e : l.take (i + 1) = l.take i := by rw [List.take_of_length_le (by omega), List.take_of_length_le (by omega)]
      rw [e]
      have : (256 : Int) ^ (i + 1) = 256 ^ i * 256 := Int.pow_succ ..
      omega
theorem pow_le {i : Nat} (h : i ≤ 7) : (256 : Int) ^ i ≤ 72057594037927936 := by
  match i, h with
  | 0, _ | 1, _ | 2, _ | 3, _ | 4, _ | 5, _ | 6, _ | 7, _ => decide
theorem take_loop (s : ByteArray) (hs : s.size = 8) (d : Nat) : ∀ (k i : Nat), i ≤ 8 → 8 - i ≤ d → d < k → word_Take.l0 k s (num (s.toList.take i)) 8 (i : Int) = some (num s.toList, true) := by
  have hl : s.toList.length = 8 := by rw [size_toList, hs]
  induction d with
  | zero =>
    intro k i hi hd hk
    obtain ⟨k, rfl⟩ : ∃ m, k = m + 1 := ⟨k - 1, by omega⟩
    have e : i = 8 := by omega
    subst e
    simp only [word_Take.l0]
    rw [if_neg (by decide), List.take_of_length_le (by omega)]
  | succ d ih =>
    intro k i hi hd hk
    by_cases e : i = 8
    · exact ih k i hi (by omega) (by omega)
    · obtain ⟨k, rfl⟩ : ∃ m, k = m + 1 := ⟨k - 1, by omega⟩
      have hb := num_bound s.toList i
      have hp := pow_le (i := i) (by omega)
      have hr := bt_range s (i : Int)
      have q1 : (i : Int) < 8 := by omega
      have q2 : 0 ≤ (i : Int) := by omega
      have q3 : (i : Int) < (s.size : Int) := by omega
      have hw : wrap64 ((i : Int) + 1) = ((i + 1 : Nat) : Int) := by unfold wrap64; omega
      have hn := num_take s.toList i (by omega)
      rw [← bt_toList s i (by omega)] at hn
      generalize num (s.toList.take i) = n at *
      have hw2 : IntKind.u64.wrap (n * 256) = n * 256 := by rw [wrap_u64]; omega
      have hw3 : IntKind.u64.wrap (bt s (i : Int)) = bt s (i : Int) := by rw [wrap_u64]; omega
      simp only [word_Take.l0]
      rw [if_pos q1, if_pos q2, if_pos q3, hw2, hw3, or_join 8 (by omega) (by omega) (by omega) (by omega) (by omega) (by omega), hw, ← hn]
      exact ih k (i + 1) (by omega) (by omega) (by omega)
theorem take_f (k : Nat) (hk : 9 ≤ k) (s : ByteArray) : word_Take.f k s = some (if s.size = 8 then (num s.toList, true) else (0, false)) := by
  unfold word_Take.f
  by_cases h : s.size = 8
  · rw [if_pos (by omega), if_pos h, h]
    exact take_loop s h 8 k 0 (by omega) (by omega) (by omega)
  · rw [if_neg (by omega), if_neg h]
theorem refTake_loop (s : ByteArray) (hs : s.size = 8) (d : Nat) : ∀ (k i : Nat), i ≤ 8 → 8 - i ≤ d → d < k → catchmentref03_Take.l0 k s (num (s.toList.take i)) (i : Int) = some (num s.toList, true) := by
  have hl : s.toList.length = 8 := by rw [size_toList, hs]
  induction d with
  | zero =>
    intro k i hi hd hk
    obtain ⟨k, rfl⟩ : ∃ m, k = m + 1 := ⟨k - 1, by omega⟩
    have e : i = 8 := by omega
    subst e
    simp only [catchmentref03_Take.l0]
    rw [if_neg (by decide), List.take_of_length_le (by omega)]
  | succ d ih =>
    intro k i hi hd hk
    by_cases e : i = 8
    · exact ih k i hi (by omega) (by omega)
    · obtain ⟨k, rfl⟩ : ∃ m, k = m + 1 := ⟨k - 1, by omega⟩
      have hb := num_bound s.toList i
      have hp := pow_le (i := i) (by omega)
      have hr := bt_range s (i : Int)
      have q1 : (i : Int) < 8 := by omega
      have q2 : 0 ≤ (i : Int) := by omega
      have q3 : (i : Int) < (s.size : Int) := by omega
      have hw : wrap64 ((i : Int) + 1) = ((i + 1 : Nat) : Int) := by unfold wrap64; omega
      have hn := num_take s.toList i (by omega)
      rw [← bt_toList s i (by omega)] at hn
      generalize num (s.toList.take i) = n at *
      have hw2 : IntKind.u64.wrap (n * 256) = n * 256 := by rw [wrap_u64]; omega
      have hw3 : IntKind.u64.wrap (bt s (i : Int)) = bt s (i : Int) := by rw [wrap_u64]; omega
      have hw4 : IntKind.u64.wrap (n * 256 + bt s (i : Int)) = n * 256 + bt s (i : Int) := by rw [wrap_u64]; omega
      simp only [catchmentref03_Take.l0]
      rw [if_pos q1, if_pos q2, if_pos q3, hw2, hw3, hw4, hw, ← hn]
      exact ih k (i + 1) (by omega) (by omega) (by omega)
theorem refTake_f (k : Nat) (hk : 9 ≤ k) (s : ByteArray) : catchmentref03_Take.f k s = some (if s.size = 8 then (num s.toList, true) else (0, false)) := by
  unfold catchmentref03_Take.f
  by_cases h : s.size = 8
  · rw [if_pos (by omega), if_pos h]
    exact refTake_loop s h 8 k 0 (by omega) (by omega) (by omega)
  · rw [if_neg (by omega), if_neg h]
/-- a byte -/
def by_ (n : Int) : UInt8 := UInt8.ofNat n.toNat
theorem strOf_toList (l : List Int) : (strOfNums l).toList = l.map by_ := by
  rw [toList_data]
  rfl
theorem by_toNat {n : Int} (h0 : 0 ≤ n) (h1 : n ≤ 255) : ((by_ n).toNat : Int) = n := by
  unfold by_
  rw [UInt8.toNat_ofNat']
  omega
theorem strOf_cons (a : Int) (l : List Int) : strOfNums [a] ++ strOfNums l = strOfNums (a :: l) := by
  apply bytes_ext
  rw [toList_append, strOf_toList, strOf_toList, strOf_toList]
  rfl
theorem strOf_size (l : List Int) : (strOfNums l).size = l.length := by
  rw [← size_toList, strOf_toList, List.length_map]
theorem strOf_nil : strOfNums [] = (⟨#[]⟩ : ByteArray) := rfl
/-- the number that a number's eight bytes are -/
theorem num_put {n : Int} (h0 : 0 ≤ n) (h1 : n ≤ 18446744073709551615) : num (strOfNums (word_Put.nums n)).toList = n := by
  rw [strOf_toList]
  unfold word_Put.nums num
  simp only [List.map_cons, List.map_nil, List.foldl_cons, List.foldl_nil]
  rw [by_toNat (by omega) (by omega), by_toNat (by omega) (by omega), by_toNat (by omega) (by omega), by_toNat (by omega) (by omega), by_toNat (by omega) (by omega), by_toNat (by omega) (by omega), by_toNat (by omega) (by omega), by_toNat (by omega) (by omega)]
  omega
theorem refPut_step (k : Nat) (n : Int) (h0 : 0 ≤ n) (h1 : n ≤ 18446744073709551615) (l : List Int) (hl : l.length ≤ 8) (i : Int) (hi0 : 0 ≤ i) (hi : i < 8) : catchmentref03_Put.l0 (k + 1) n (strOfNums l) i = catchmentref03_Put.l0 k (n / 256) (strOfNums (n % 256 :: l)) (i + 1) := by
  have hw : wrap64 (i + 1) = i + 1 := by unfold wrap64; omega
  have e1 : Int.tmod n 256 % 256 = n % 256 := by rw [Int.tmod_eq_emod_of_nonneg h0]; omega
  have e2 : IntKind.u64.wrap (Int.tdiv n 256) = n / 256 := by rw [Int.tdiv_eq_ediv_of_nonneg h0, wrap_u64]; omega
  simp only [catchmentref03_Put.l0]
  rw [if_pos hi, Option.bind_some, e1, e2, hw, strOf_cons, if_pos (by rw [strOf_size, strOf_size]; simp; omega)]
theorem refPut_f (k : Nat) (hk : 9 ≤ k) (n : Int) (h0 : 0 ≤ n) (h1 : n ≤ 18446744073709551615) : catchmentref03_Put.f k n = some (strOfNums (word_Put.nums n)) := by
  obtain ⟨k, rfl⟩ : ∃ m, k = m + 1 + 1 + 1 + 1 + 1 + 1 + 1 + 1 + 1 := ⟨k - 9, by omega⟩
  unfold catchmentref03_Put.f
  rw [← strOf_nil, refPut_step _ _ (by omega) (by omega) _ (by simp) 0 (by omega) (by omega), refPut_step _ _ (by omega) (by omega) _ (by simp) _ (by omega) (by omega), refPut_step _ _ (by omega) (by omega) _ (by simp) _ (by omega) (by omega),
    refPut_step _ _ (by omega) (by omega) _ (by simp) _ (by omega) (by omega), refPut_step _ _ (by omega) (by omega) _ (by simp) _ (by omega) (by omega), refPut_step _ _ (by omega) (by omega) _ (by simp) _ (by omega) (by omega),
    refPut_step _ _ (by omega) (by omega) _ (by simp) _ (by omega) (by omega), refPut_step _ _ (by omega) (by omega) _ (by simp) _ (by omega) (by omega)]
  simp only [catchmentref03_Put.l0]
  rw [if_neg (by omega)]
  unfold word_Put.nums
  have d2 : n / 256 / 256 = n / 65536 := by omega
  have d3 : n / 65536 / 256 = n / 16777216 := by omega
  have d4 : n / 16777216 / 256 = n / 4294967296 := by omega
  have d5 : n / 4294967296 / 256 = n / 1099511627776 := by omega
  have d6 : n / 1099511627776 / 256 = n / 281474976710656 := by omega
  have d7 : n / 281474976710656 / 256 = n / 72057594037927936 := by omega
  rw [d2, d3, d4, d5, d6, d7]
/-- what becomes of a value to which a number is added -/
def add (v : ByteArray) (is : Bool) (d : Int) : ByteArray :=
  if is = true then (if v.size = 8 then strOfNums (word_Put.nums (IntKind.u64.wrap (num v.toList + d))) else v) else strOfNums (word_Put.nums d)
theorem add_f (k : Nat) (hk : 9 ≤ k) (v : ByteArray) (is : Bool) (d : Int) : word_Add.f k v is d = some (add v is d) := by
  unfold word_Add.f add
  rw [take_f k hk, Option.bind_some]
  cases is
  · rw [if_neg (by decide), if_neg (by decide)]
    rfl
  · rw [if_pos rfl, if_pos rfl]
    by_cases h : v.size = 8
    · rw [if_pos h, if_pos h]
      rfl
    · rw [if_neg h, if_neg h]
      rfl
theorem wrap_range (n : Int) : 0 ≤ IntKind.u64.wrap n ∧ IntKind.u64.wrap n ≤ 18446744073709551615 := by
  rw [wrap_u64]
  omega
theorem refAdd_f (k : Nat) (hk : 9 ≤ k) (v : ByteArray) (is : Bool) (d : Int) (h0 : 0 ≤ d) (h1 : d ≤ 18446744073709551615) : catchmentref03_Add.f k v is d = some (add v is d) := by
  unfold catchmentref03_Add.f add
  cases is
  · rw [if_neg (by decide), if_neg (by decide), refPut_f k hk d h0 h1]
    rfl
  · rw [if_pos rfl, if_pos rfl, refTake_f k hk, Option.bind_some]
    by_cases h : v.size = 8
    · rw [if_pos h, if_pos h, if_pos rfl]
      have := wrap_range (num v.toList + d)
      rw [refPut_f k hk _ this.1 this.2]
      rfl
    · rw [if_neg h, if_neg h, if_neg (by decide)]
end Go.Proofs.Ytpfikmchimlneaa.WordSpec
