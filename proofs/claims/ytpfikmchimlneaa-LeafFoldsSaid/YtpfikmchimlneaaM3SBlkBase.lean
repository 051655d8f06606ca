/- What the functions on blocks compute, in plain words: where a key stands, what becomes of a block by a key and a range. No condition beyond sizes. -/
import Derived.Test.YtpfikmchimlneaaM3x20
import Derived.Test.YtpfikmchimlneaaM3x34
import Derived.Test.YtpfikmchimlneaaM3P1
import Derived.Test.YtpfikmchimlneaaM3x63
import Derived.Test.YtpfikmchimlneaaM3P0
import Derived.Test.YtpfikmchimlneaaM3V0
set_option linter.unusedVariables false
set_option linter.unusedSimpArgs false
namespace Go.Proofs.Ytpfikmchimlneaa.BlkBase
open Go.RowKit Go.Proofs.Ytpfikmchimlneaa.M3 Go.Proofs.YtpfikmchimlneaaW.PrintWords Go.Proofs.YtpfikmchimlneaaW.PrintLast Go.Proofs.YtpfikmchimlneaaW.PrintMore Go.Proofs.YtpfikmchimlneaaW.Mine Go.Proofs.YtpfikmchimlneaaW.Ord
theorem wrap64_id {n : Int} (h0 : 0 ≤ n) (h1 : n < 9223372036854775808) : wrap64 n = n := by unfold wrap64; omega
theorem succ_nat (i : Nat) (h2 : i < 1000000) : wrap64 ((i : Int) + 1) = ((i + 1 : Nat) : Int) := by rw [wrap64_id (by omega) (by omega)]; omega
theorem pred_nat (i : Nat) (h : 0 < i) (h2 : i < 1000000) : wrap64 ((i : Int) - 1) = ((i - 1 : Nat) : Int) := by rw [wrap64_id (by omega) (by omega)]; omega
theorem rd_drop {l : List S85} {i : Nat} {x : S85} {r : List S85} (h : l.drop i = x :: r) : i < l.length ∧ rd_T85 l (i : Int) = x ∧ l.drop (i + 1) = r := by
  have hi : i < l.length := by
    rcases Nat.lt_or_ge i l.length with h0 | h0
    · exact h0
    · rw [List.drop_eq_nil_of_le h0] at h
      cases h
  rw [List.drop_eq_getElem_cons hi] at h
  injection h with h1 h2
  refine ⟨hi, ?_, h2⟩
  unfold rd_T85
  rw [Int.toNat_natCast, List.getD_eq_getElem?_getD, List.getElem?_eq_getElem hi, Option.getD_some, h1]
theorem rdOf_drop {l : List ByteArray} {i : Nat} {x : ByteArray} {r : List ByteArray} (h : l.drop i = x :: r) : i < l.length ∧ rdOf ByteArray.empty l (i : Int) = x ∧ l.drop (i + 1) = r := by
  have hi : i < l.length := by
    rcases Nat.lt_or_ge i l.length with h0 | h0
    · exact h0
    · rw [List.drop_eq_nil_of_le h0] at h
      cases h
  rw [List.drop_eq_getElem_cons hi] at h
  injection h with h1 h2
  refine ⟨hi, ?_, h2⟩
  unfold rdOf
  rw [Int.toNat_natCast, List.getD_eq_getElem?_getD, List.getElem?_eq_getElem hi, Option.getD_some, h1]
/-- the bytes of an entry's key -/
def key (e : S85) : List UInt8 := e.f0.toList
def Srt (l : List S85) : Prop := l.Pairwise fun a b => L (key a) (key b)
/-- an entry of key s, or none -/
def md (s : ByteArray) (o : Option ByteArray) : List S85 := (o.map (S85.mk s)).toList
theorem md_none (s : ByteArray) : md s none = [] := rfl
theorem md_some (s v : ByteArray) : md s (some v) = [⟨s, v⟩] := rfl
theorem split (s : List UInt8) : ∀ l, Srt l → ∃ lo hi, l = lo ++ hi ∧ (∀ x ∈ lo, L (key x) s) ∧ (∀ x ∈ hi, ¬ L (key x) s)
  | [], _ => ⟨[], [], rfl, by simp, by simp⟩
  | a :: t, h => by
    by_cases ha : L (key a) s
    · obtain ⟨lo, hi, rfl, h1, h2⟩ := split s t (List.pairwise_cons.1 h).2
      refine ⟨a :: lo, hi, rfl, ?_, h2⟩
      intro x hx
      rcases List.mem_cons.1 hx with rfl | hx
      · exact ha
      · exact h1 x hx
    · refine ⟨[], a :: t, rfl, by simp, ?_⟩
      intro x hx
      rcases List.mem_cons.1 hx with rfl | hx
      · exact ha
      · exact fun hx' => ha (L_trans ((List.pairwise_cons.1 h).1 x hx) hx')
/-- a block, seen from a key: what is ahead of it, it, what is behind it -/
structure Parts (l : List S85) (s : ByteArray) (lo : List S85) (o : Option ByteArray) (hi : List S85) : Prop where
  eq : l = lo ++ md s o ++ hi
  lt : ∀ x ∈ lo, L (key x) s.toList
  gt : ∀ x ∈ hi, L s.toList (key x)
  srt : Srt l
theorem parts {l : List S85} (h : Srt l) (s : ByteArray) : ∃ lo o hi, Parts l s lo o hi := by
  obtain ⟨lo, hi, e, h1, h2⟩ := split s.toList l h
  cases hi with
  | nil => exact ⟨lo, none, [], by rw [e]; simp [md_none], h1, by simp, h⟩
  | cons x t =>
    have hs : Srt (x :: t) := by
      unfold Srt at h
      rw [e, List.pairwise_append] at h
      exact h.2.1
    by_cases hx : key x = s.toList
    · refine ⟨lo, some x.f1, t, ?_, h1, ?_, h⟩
      · rw [e, md_some]
        have : x.f0 = s := bytes_ext hx
        subst this
        simp
      · intro y hy
        rw [← hx]
        exact (List.pairwise_cons.1 hs).1 y hy
    · have hgt : L s.toList (key x) := L_of_ne (h2 x (List.mem_cons_self ..)) hx
      refine ⟨lo, none, x :: t, by rw [e]; simp [md_none], h1, ?_, h⟩
      intro y hy
      rcases List.mem_cons.1 hy with rfl | hy
      · exact hgt
      · exact L_trans hgt ((List.pairwise_cons.1 hs).1 y hy)
theorem cmp_zero : ∀ a b : List UInt8, Lib.compareBytes a b = 0 → a = b
  | [], [], _ => rfl
  | [], _ :: _, h => by simp [Lib.compareBytes] at h
  | _ :: _, [], h => by simp [Lib.compareBytes] at h
  | x :: a, y :: b, h => by
    unfold Lib.compareBytes at h
    by_cases h1 : x < y
    · rw [if_pos h1] at h; omega
    · rw [if_neg h1] at h
      by_cases h2 : y < x
      · rw [if_pos h2] at h; omega
      · rw [if_neg h2] at h
        have : x = y := by
          rcases Classical.em (x = y) with e | e
          · exact e
          · rcases UInt8.lt_or_lt_of_ne e with h3 | h3
            · exact absurd h3 h1
            · exact absurd h3 h2
        rw [this, cmp_zero a b h]
theorem cmp_self : ∀ a : List UInt8, Lib.compareBytes a a = 0
  | [] => rfl
  | x :: a => by
    unfold Lib.compareBytes
    rw [if_neg (UInt8.lt_irrefl x), if_neg (UInt8.lt_irrefl x)]
    exact cmp_self a
theorem u64_id {n : Int} (h0 : 0 ≤ n) (h1 : n < 9223372036854775808) : IntKind.u64.wrap n = n := by
  simp [IntKind.wrap, IntKind.signed, IntKind.bits]
  omega
theorem mid_nat (i j : Nat) (h : i + j < 1000000) : wrap64 ((IntKind.u64.wrap (wrap64 ((i : Int) + (j : Int)))) / 2) = (((i + j) / 2 : Nat) : Int) := by
  rw [wrap64_id (n := (i : Int) + (j : Int)) (by omega) (by omega), u64_id (by omega) (by omega), wrap64_id (by omega) (by omega)]
  omega
theorem rd_get (l : List S85) (h : Nat) (hh : h < l.length) : rd_T85 l (h : Int) = l[h] := by
  unfold rd_T85
  rw [Int.toNat_natCast, List.getD_eq_getElem?_getD, List.getElem?_eq_getElem hh, Option.getD_some]
theorem place_loop {l lo hi : List S85} {s : ByteArray} {o : Option ByteArray} (P : Parts l s lo o hi) (hl : l.length < 400000) : ∀ (k i j : Nat), i ≤ lo.length → lo.length ≤ j → j ≤ l.length → j - i < k → api_Entry_string_112.l0 k l s (l.length : Int) (i : Int) (j : Int) = some ((lo.length : Int), o.isSome)
  | 0, _, _, _, _, _, h => absurd h (by omega)
  | k + 1, i, j, hi1, hj1, hj2, hk => by
    rw [api_Entry_string_112.l0]
    by_cases hij : i < j
    · have hh : (i + j) / 2 < l.length := by omega
      rw [if_pos (by omega), mid_nat i j (by omega), if_pos (by omega), if_pos (by omega), rd_get l _ hh]
      have hc : block_Place_1.f (l[(i + j) / 2]).f0 (l[(i + j) / 2]).f1 s = some (Lib.compareBytes (key l[(i + j) / 2]) s.toList) := by
        unfold block_Place_1.f strings_Compare.f key
        rw [toList_data, toList_data]
        rfl
      rw [hc, Option.bind_some]
      by_cases hlt : (i + j) / 2 < lo.length
      · have hL : L (key l[(i + j) / 2]) s.toList := by
          apply P.lt
          have h0 := P.eq
          have : l[(i + j) / 2] = lo[(i + j) / 2] := by
            subst h0
            rw [List.getElem_append_left (by rw [List.length_append]; omega), List.getElem_append_left hlt]
          rw [this]
          exact List.getElem_mem _
        rw [if_pos (by have := mt (compare_ge (key l[(i + j) / 2]) s.toList).1 (fun h => h hL); omega), succ_nat _ (by omega)]
        exact place_loop P hl k _ j (by omega) hj1 hj2 (by omega)
      · have hL : ¬ L (key l[(i + j) / 2]) s.toList := by
          have h0 := P.eq
          have : l[(i + j) / 2] ∈ md s o ++ hi := by
            have e2 : l.drop lo.length = md s o ++ hi := by rw [h0, List.append_assoc, List.drop_left' rfl]
            have h3 : (md s o ++ hi)[(i + j) / 2 - lo.length]? = some l[(i + j) / 2] := by rw [← e2, List.getElem?_drop, show lo.length + ((i + j) / 2 - lo.length) = (i + j) / 2 by omega, List.getElem?_eq_getElem hh]
            exact List.mem_of_getElem? h3
          rcases List.mem_append.1 this with h1 | h1
          · cases o with
            | none => simp [md] at h1
            | some v =>
              simp [md] at h1
              rw [h1]
              exact L_irrefl _
          · exact L_asymm (P.gt _ h1)
        rw [if_neg (by have := (compare_ge (key l[(i + j) / 2]) s.toList).2 hL; omega)]
        exact place_loop P hl k i _ hi1 (by omega) (by omega) (by omega)
    · obtain rfl : i = lo.length := by omega
      obtain rfl : j = lo.length := by omega
      rw [if_neg (by omega)]
      have e := P.eq
      have hlen := congrArg List.length e
      cases o with
      | some v =>
        have e2 : l.drop lo.length = ⟨s, v⟩ :: hi := by rw [e, md_some, List.append_assoc, List.drop_left' rfl]; rfl
        obtain ⟨h1, h2, _⟩ := rd_drop e2
        rw [if_pos (by omega), if_pos (by omega), if_pos (by omega), h2]
        unfold block_Place_1.f strings_Compare.f
        rw [Option.bind_some, Option.bind_some, cmp_self]
        rfl
      | none =>
        cases hi with
        | nil =>
          rw [md_none] at hlen
          simp only [List.append_nil] at hlen
          rw [if_neg (by omega)]
          rfl
        | cons x t =>
          have e2 : l.drop lo.length = x :: t := by rw [e, md_none, List.append_nil, List.drop_left' rfl]
          obtain ⟨h1, h2, _⟩ := rd_drop e2
          rw [if_pos (by omega), if_pos (by omega), if_pos (by omega), h2]
          unfold block_Place_1.f strings_Compare.f
          rw [Option.bind_some, Option.bind_some]
          have : Lib.compareBytes x.f0.data.toList s.data.toList ≠ 0 := by
            intro h
            have := cmp_zero _ _ h
            have h3 := P.gt x (List.mem_cons_self ..)
            unfold key at h3
            rw [toList_data, toList_data, this] at h3
            exact L_irrefl _ h3
          simp [this]
theorem place_f {l lo hi : List S85} {s : ByteArray} {o : Option ByteArray} (P : Parts l s lo o hi) (hl : l.length < 400000) (k : Nat) (hk : l.length < k) : block_Place.f k l s = some ((lo.length : Int), o.isSome) := by
  unfold block_Place.f api_Entry_string_112.f
  have hlen := congrArg List.length P.eq
  rw [List.length_append, List.length_append] at hlen
  rw [show (0 : Int) = ((0 : Nat) : Int) from rfl, place_loop P hl k 0 l.length (by omega) (by omega) (by omega) (by omega), Option.bind_some]
theorem clone_f (l : List S85) (h : l.length < 1000000) : api_Entry_86.f l = some l := by
  unfold api_Entry_86.f
  rw [if_pos h]
theorem put_f {l lo hi : List S85} {s : ByteArray} {o : Option ByteArray} (P : Parts l s lo o hi) (hl : l.length < 400000) (k : Nat) (hk : l.length < k) (x : ByteArray) : block_Put.f k l s x = some (lo ++ md s (some x) ++ hi) := by
  unfold block_Put.f
  have e := P.eq
  have hlen := congrArg List.length e
  rw [if_pos (by omega), place_f P hl k hk, Option.bind_some]
  cases o with
  | some v =>
    rw [md_some] at e hlen
    simp only [List.length_append, List.length_cons, List.length_nil] at hlen
    dsimp only [Option.isSome]
    rw [if_pos rfl, if_pos (by omega), Int.toNat_natCast, e, List.append_assoc, List.set_append_right _ _ (by omega), Nat.sub_self, md_some, List.append_assoc]
    rfl
  | none =>
    rw [md_none, List.append_nil] at e
    dsimp only [Option.isSome]
    rw [if_neg (by simp), if_pos (by rw [e, List.length_append]; omega), Int.toNat_natCast, e, List.take_left' rfl, List.drop_left' rfl, md_some]
theorem drop_f {l lo hi : List S85} {s : ByteArray} {o : Option ByteArray} (P : Parts l s lo o hi) (hl : l.length < 400000) (k : Nat) (hk : l.length < k) : block_Drop.f k l s = some (lo ++ hi) := by
  unfold block_Drop.f
  have e := P.eq
  have hlen := congrArg List.length e
  rw [place_f P hl k hk, Option.bind_some]
  cases o with
  | some v =>
    rw [md_some] at e hlen
    simp only [List.length_append, List.length_cons, List.length_nil] at hlen
    dsimp only [Option.isSome]
    rw [if_pos rfl, succ_nat _ (by omega)]
    unfold block_without.f
    have hm : mx (lo.length : Int) ((lo.length + 1 : Nat) : Int) = ((lo.length + 1 : Nat) : Int) := by unfold mx; rw [if_pos (by omega)]
    rw [hm, if_pos (by omega), Option.bind_some, Int.toNat_natCast, Int.toNat_natCast]
    congr 1
    have h1 : l.take lo.length = lo := by rw [e, List.append_assoc, List.take_left' rfl]
    have h2 : l.drop (lo.length + 1) = hi := by rw [e, List.drop_left' (by simp)]
    rw [h1, h2]
  | none =>
    rw [md_none, List.append_nil] at e
    dsimp only [Option.isSome]
    rw [if_neg (by simp), clone_f l (by omega), Option.bind_some, e]
theorem drop_nil {α : Type} {l : List α} {i : Nat} (h : l.drop i = []) : l.length ≤ i := by
  have := congrArg List.length h
  rw [List.length_drop, List.length_nil] at this
  omega
/-- do entries rise? the document's answer tells whether they are sorted -/
theorem rises_loop {l : List S85} (hl : l.length < 400000) : ∀ (d i k : Nat), d = l.length - i → 1 ≤ i → d < k → ∃ b, catchmentref05_Rises.l0 k l (i : Int) = some b ∧ (b = true → ∀ j, i ≤ j → (h : j < l.length) → L (key l[j - 1]) (key l[j]))
  | d, i, 0, _, _, h => absurd h (by omega)
  | d, i, k + 1, hd, hi, hk => by
    by_cases h : i < l.length
    · rw [catchmentref05_Rises.l0, if_pos (by omega), pred_nat i (by omega) (by omega), if_pos (by omega), if_pos (by omega), if_pos (by omega), succ_nat i (by omega), rd_get l i h, rd_get l (i - 1) (by omega)]
      by_cases hb : Op.bytesLess (l[i - 1]).f0.toList (l[i]).f0.toList = true
      · rw [if_pos hb]
        obtain ⟨b, h1, h2⟩ := rises_loop hl (d - 1) (i + 1) k (by omega) (by omega) (by omega)
        refine ⟨b, h1, fun hbt j hj hjl => ?_⟩
        rcases Nat.lt_or_ge i j with h3 | h3
        · exact h2 hbt j h3 hjl
        · obtain rfl : j = i := by omega
          exact hb
      · rw [if_neg hb]
        exact ⟨false, rfl, fun h => by cases h⟩
    · rw [catchmentref05_Rises.l0, if_neg (by omega)]
      exact ⟨true, rfl, fun _ j hj hjl => by omega⟩
theorem srt_of {l : List S85} (h : ∀ j, 1 ≤ j → (h : j < l.length) → L (key l[j - 1]) (key l[j])) : Srt l := by
  unfold Srt
  rw [List.pairwise_iff_getElem]
  intro i j hi hj hij
  induction j with
  | zero => omega
  | succ j ih =>
    have h1 := h (j + 1) (by omega) hj
    rcases Nat.lt_or_ge i j with h3 | h3
    · exact L_trans (ih (by omega) h3) h1
    · obtain rfl : i = j := by omega
      exact h1
theorem same_loop (l : List S85) (hl : l.length < 400000) : ∀ (d i k : Nat), d = l.length - i → i ≤ l.length → d < k → catchmentref05_Same.l0 k l l (i : Int) = some true
  | d, i, 0, _, _, h => absurd h (by omega)
  | 0, i, k + 1, hd, hi, hk => by rw [catchmentref05_Same.l0, if_neg (by omega)]
  | d + 1, i, k + 1, hd, hi, hk => by
    rw [catchmentref05_Same.l0, if_pos (by omega), if_pos (by omega), if_pos (by omega), if_neg (by simp), succ_nat i (by omega)]
    exact same_loop l hl d (i + 1) k (by omega) (by omega) (by omega)
theorem same_f (l : List S85) (hl : l.length < 400000) (k : Nat) (hk : l.length < k) : catchmentref05_Same.f k l l = some true := by
  unfold catchmentref05_Same.f
  rw [if_pos rfl]
  exact same_loop l hl l.length 0 k (by omega) (by omega) hk
def hold (a b q : List UInt8) : Bool := !(Op.bytesLess q a) && (b.isEmpty || Op.bytesLess q b)
/-! ### Cut -/
theorem rr_f (a b : ByteArray) : key_RightRange.f a b = some (b.toList.isEmpty || Op.bytesLess a.toList b.toList) := by
  unfold key_RightRange.f key_ahead.f
  by_cases h : b.toList = []
  · rw [if_pos h, Option.bind_some, h]; rfl
  · rw [if_neg h, Option.bind_some]
    have : b.toList.isEmpty = false := by simpa using h
    rw [this]; rfl
theorem parts_take {l lo hi : List S85} {s : ByteArray} {o : Option ByteArray} (P : Parts l s lo o hi) : ∀ x ∈ l.take lo.length, L (key x) s.toList := by
  rw [P.eq, List.append_assoc, List.take_left' rfl]
  exact P.lt
theorem parts_drop {l lo hi : List S85} {s : ByteArray} {o : Option ByteArray} (P : Parts l s lo o hi) : ∀ x ∈ l.drop lo.length, ¬ L (key x) s.toList := by
  rw [P.eq, List.append_assoc, List.drop_left' rfl]
  intro x hx
  rcases List.mem_append.1 hx with h | h
  · cases o with
    | none => simp [md] at h
    | some v =>
      simp [md] at h
      rw [h]
      exact L_irrefl _
  · exact L_asymm (P.gt x h)
theorem cut_filter {l : List S85} {a b : List UInt8} {p q : Nat} (hpq : p ≤ q) (h1 : ∀ x ∈ l.take p, L (key x) a) (h2 : ∀ x ∈ l.drop p, ¬ L (key x) a) (h3 : ∀ x ∈ l.take q, b = [] ∨ L (key x) b) (h4 : ∀ x ∈ l.drop q, b ≠ [] ∧ ¬ L (key x) b) : (l.filter fun e => !(hold a b e.f0.toList)) = l.take p ++ l.drop q := by
  have e : l = l.take p ++ ((l.take q).drop p ++ l.drop q) := by
    have h5 : (l.take q).take p = l.take p := by rw [List.take_take, Nat.min_eq_left hpq]
    rw [← List.append_assoc]
    rw [← h5, List.take_append_drop, List.take_append_drop]
  have f1 : ((l.take p).filter fun e => !(hold a b e.f0.toList)) = l.take p := List.filter_eq_self.2 (fun x hx => by
    have := h1 x hx
    unfold key L at this
    unfold hold
    rw [this]; rfl)
  have f2 : (((l.take q).drop p).filter fun e => !(hold a b e.f0.toList)) = [] := List.filter_eq_nil_iff.2 (fun x hx => by
    have ha : ¬ L (key x) a := by
      refine h2 x ?_
      rw [List.drop_take] at hx
      exact List.mem_of_mem_take hx
    have hb := h3 x (List.mem_of_mem_drop hx)
    unfold key L at ha hb
    unfold hold
    rw [Bool.eq_false_iff.2 ha]
    rcases hb with hb | hb
    · rw [hb]; simp
    · rw [hb]; simp)
  have f3 : ((l.drop q).filter fun e => !(hold a b e.f0.toList)) = l.drop q := List.filter_eq_self.2 (fun x hx => by
    obtain ⟨hb, hb2⟩ := h4 x hx
    unfold key L at hb2
    unfold hold
    have : b.isEmpty = false := by simpa using hb
    rw [this, Bool.eq_false_iff.2 hb2]
    simp)
  conv => lhs; rw [e]
  rw [List.filter_append, List.filter_append, f1, f2, f3, List.nil_append]
theorem cut_f {l : List S85} (hs : Srt l) (hl : l.length < 400000) (a b : ByteArray) (k : Nat) (hk : l.length + 1 < k) : block_Cut.f k l a b = some (l.filter fun e => !(hold a.toList b.toList e.f0.toList)) := by
  obtain ⟨k, rfl⟩ : ∃ k2, k = k2 + 1 := ⟨k - 1, by omega⟩
  obtain ⟨loa, oa, hia, Pa⟩ := parts hs a
  obtain ⟨lob, ob, hib, Pb⟩ := parts hs b
  have la : loa.length ≤ l.length := by have := congrArg List.length Pa.eq; simp only [List.length_append] at this; omega
  have lb : lob.length ≤ l.length := by have := congrArg List.length Pb.eq; simp only [List.length_append] at this; omega
  unfold block_Cut.f
  rw [rr_f, Option.bind_some]
  by_cases hr : (b.toList.isEmpty || Op.bytesLess a.toList b.toList) = true
  · rw [if_pos hr, place_f Pa hl (k + 1) (by omega), Option.bind_some]
    by_cases hb : b.toList = []
    · have hm : mx (loa.length : Int) (l.length : Int) = (l.length : Int) := by unfold mx; split <;> omega
      rw [if_pos hb, block_Cut.j0]
      unfold block_without.f
      dsimp only
      rw [hm, if_pos (by omega), Option.bind_some, Int.toNat_natCast, Int.toNat_natCast]
      congr 1
      refine (cut_filter la (parts_take Pa) (parts_drop Pa) (fun x _ => .inl hb) ?_).symm
      rw [List.drop_length]
      simp
    · have hL : L a.toList b.toList := by
        have h0 : b.toList.isEmpty = false := by simpa using hb
        rw [h0, Bool.false_or] at hr
        exact hr
      have hle : loa.length ≤ lob.length := by
        rcases Nat.lt_or_ge lob.length loa.length with h | h
        · exfalso
          have hx : lob.length < l.length := by omega
          have m1 : l[lob.length] ∈ l.take loa.length := by
            rw [List.mem_take_iff_getElem]
            exact ⟨lob.length, by omega, rfl⟩
          have m2 : l[lob.length] ∈ l.drop lob.length := by
            rw [List.drop_eq_getElem_cons hx]
            exact List.mem_cons_self ..
          exact parts_drop Pb _ m2 (L_trans (parts_take Pa _ m1) hL)
        · exact h
      have hm : mx (loa.length : Int) (lob.length : Int) = (lob.length : Int) := by unfold mx; split <;> omega
      rw [if_neg hb, place_f Pb hl (k + 1) (by omega), Option.bind_some, block_Cut.j0]
      unfold block_without.f
      dsimp only
      rw [hm, if_pos (by omega), Option.bind_some, Int.toNat_natCast, Int.toNat_natCast]
      congr 1
      exact (cut_filter hle (parts_take Pa) (parts_drop Pa) (fun x hx => .inr (parts_take Pb x hx)) (fun x hx => ⟨hb, parts_drop Pb x hx⟩)).symm
  · rw [if_neg hr, clone_f l (by omega), Option.bind_some]
    congr 1
    refine (List.filter_eq_self.2 (fun x hx => ?_)).symm
    have h0 : b.toList.isEmpty = false ∧ Op.bytesLess a.toList b.toList = false := by
      rcases h1 : b.toList.isEmpty with _ | _
      · rcases h2 : Op.bytesLess a.toList b.toList with _ | _
        · exact ⟨rfl, rfl⟩
        · exact absurd (by rw [h1, h2]; rfl) hr
      · exact absurd (by rw [h1]; rfl) hr
    unfold hold
    rw [h0.1, Bool.false_or]
    rcases h1 : Op.bytesLess x.f0.toList a.toList with _ | _
    · rcases h2 : Op.bytesLess x.f0.toList b.toList with _ | _
      · rfl
      · exfalso
        have : L a.toList b.toList := L_of_le (b := x.f0.toList) (by unfold L; rw [h1]; decide) h2
        unfold L at this
        rw [h0.2] at this
        cases this
    · rfl
end Go.Proofs.Ytpfikmchimlneaa.BlkBase
