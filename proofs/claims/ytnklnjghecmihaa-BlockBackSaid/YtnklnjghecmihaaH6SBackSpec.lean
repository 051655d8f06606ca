/- What the functions Text, Texts of the packages word and catchmentref03 answer, and that what they write is read back. Conditions: texts of at most 5000 bytes, at most 100 of them. -/
import Derived.Test.YtnklnjghecmihaaH6P0
import Derived.Test.YtnklnjghecmihaaH6x36
import Derived.Test.YtnklnjghecmihaaH6STextSpec
set_option linter.unusedVariables false
set_option linter.unusedSimpArgs false
namespace Go.Proofs.Ytnklnjghecmihaa.BackSpec
open Go.RowKit Go.Proofs.Ytnklnjghecmihaa.H6 Go.Proofs.Ytnklnjghecmihaa.WordSpec Go.Proofs.Ytnklnjghecmihaa.NumSpec Go.Proofs.Ytnklnjghecmihaa.TextSpec Go.Proofs.YtnklnjghecmihaaW.PrintWords Go.Proofs.YtnklnjghecmihaaW.PrintLast Go.Proofs.YtnklnjghecmihaaW.PrintMore Go.Proofs.YtnklnjghecmihaaW.Mine Go.Proofs.YtnklnjghecmihaaW.Ord
theorem numS_size (n : Int) : (numS n).size ≤ 5 := by
  unfold numS
  split
  · have := nl_length 4 n
    rw [strOf_size]
    omega
  · exact empty_size _
theorem numS_pos (n : Int) (h0 : 0 ≤ n) (h1 : n ≤ 2147483647) : 1 ≤ (numS n).size := by
  unfold numS
  have := nl_length 4 n
  rw [if_pos ⟨h0, h1⟩, strOf_size]
  omega
/-- a text's bytes, its size ahead -/
def txt (s : ByteArray) : ByteArray := numS (s.size : Int) ++ s
theorem txt_size (s : ByteArray) : (txt s).size ≤ s.size + 5 := by
  have := numS_size (s.size : Int)
  unfold txt
  rw [ByteArray.size_append]
  omega
def cat : List ByteArray → ByteArray
  | [] => ⟨#[]⟩
  | s :: r => txt s ++ cat r
theorem app_nil (a : ByteArray) : a ++ (⟨#[]⟩ : ByteArray) = a := by
  apply bytes_ext
  rw [toList_append, toList_empty, List.append_nil]
theorem nil_app (a : ByteArray) : (⟨#[]⟩ : ByteArray) ++ a = a := by
  apply bytes_ext
  rw [toList_append, toList_empty, List.nil_append]
theorem app_assoc (a b c : ByteArray) : a ++ b ++ c = a ++ (b ++ c) := by
  apply bytes_ext
  simp only [toList_append, List.append_assoc]
theorem cat_size : ∀ (l : List ByteArray), (∀ s ∈ l, s.size ≤ 5000) → (cat l).size ≤ 5005 * l.length
  | [], _ => empty_size _
  | s :: r, h => by
    have ih := cat_size r (fun x hx => h x (by simp [hx]))
    have h1 := h s (by simp)
    have h2 := txt_size s
    rw [cat, ByteArray.size_append, List.length_cons]
    omega
theorem text_f (k : Nat) (hk : 10 ≤ k) (s : ByteArray) (hs : s.size ≤ 5000) : word_Text.f k s = some (txt s) := by
  have h1 := numS_size (s.size : Int)
  unfold word_Text.f txt
  rw [if_neg (by omega), num_f k hk, Option.bind_some, if_pos (by omega)]
theorem texts_go (k : Nat) (hk : 10 ≤ k) : ∀ (l : List ByteArray) (acc : ByteArray), (∀ s ∈ l, s.size ≤ 5000) → acc.size + 5005 * l.length ≤ 1000000 → word_Texts.go k l acc = some (acc ++ cat l)
  | [], acc, _, _ => by rw [word_Texts.go, cat, app_nil]
  | s :: r, acc, h, hs => by
    have h1 := h s (by simp)
    have h2 := txt_size s
    rw [List.length_cons] at hs
    rw [word_Texts.go, text_f k hk s h1, Option.bind_some, if_pos (by omega), texts_go k hk r _ (fun x hx => h x (by simp [hx])) (by rw [ByteArray.size_append]; omega), cat, app_assoc]
theorem texts_f (k : Nat) (hk : 10 ≤ k) (l : List ByteArray) (h : ∀ s ∈ l, s.size ≤ 5000) (hl : l.length ≤ 100) : word_Texts.f k l = some (cat l) := by
  have : (⟨#[]⟩ : ByteArray).size = 0 := rfl
  unfold word_Texts.f
  rw [texts_go k hk l _ h (by omega), nil_app]
theorem rd_at (l : List ByteArray) (j : Nat) (h : j < l.length) : rdOf ByteArray.empty l (j : Int) = l[j] := by
  unfold rdOf
  simp [h]
theorem refTexts_loop (l : List ByteArray) (h : ∀ s ∈ l, s.size ≤ 5000) (hl : l.length ≤ 100) : ∀ (d j k : Nat) (acc : ByteArray), j + d = l.length → d + 20 < k → acc.size + 5005 * d ≤ 1000000 → catchmentref03_Texts.l0 k l acc (j : Int) = some (acc ++ cat (l.drop j))
  | d, j, 0, acc, _, hk, _ => absurd hk (by omega)
  | 0, j, k + 1, acc, hd, hk, hs => by
    rw [catchmentref03_Texts.l0, if_neg (by omega), List.drop_eq_nil_iff.2 (by omega), cat, app_nil]
  | d + 1, j, k + 1, acc, hd, hk, hs => by
    have hj : j < l.length := by omega
    have h1 := h l[j] (List.getElem_mem hj)
    have h2 := numS_size ((l[j]).size : Int)
    have e1 : wrap64 ((j : Int) + 1) = ((j + 1 : Nat) : Int) := by rw [wrap64_id (by omega) (by omega)]; omega
    rw [catchmentref03_Texts.l0, if_pos (by omega), if_pos (by omega), rd_at l j hj, refNum_f k (by omega), Option.bind_some, if_pos (by omega), if_pos (by rw [ByteArray.size_append]; omega), e1,
      refTexts_loop l h hl d (j + 1) k _ (by omega) (by omega) (by rw [ByteArray.size_append, ByteArray.size_append]; omega), List.drop_eq_getElem_cons hj, cat, txt, app_assoc, app_assoc, app_assoc]
theorem refTexts_f (k : Nat) (hk : 200 ≤ k) (l : List ByteArray) (h : ∀ s ∈ l, s.size ≤ 5000) (hl : l.length ≤ 100) : catchmentref03_Texts.f k l = some (cat l) := by
  have : (⟨#[]⟩ : ByteArray).size = 0 := rfl
  unfold catchmentref03_Texts.f
  exact (refTexts_loop l h hl l.length 0 k ⟨#[]⟩ (by omega) (by omega) (by omega)).trans (by rw [nil_app, List.drop_zero])
/-- the bytes of a number: all but the last one are 128 or more, the last one is less, and none but a lone one is 0 -/
theorem nl_form : ∀ (f : Nat) (n : Int), 0 ≤ n → n < 128 ^ (f + 1) → ∃ pre b, (nl f n).map by_ = pre ++ [b] ∧ pre.length ≤ f ∧ (∀ c ∈ pre, 128 ≤ c.toNat) ∧ b.toNat < 128 ∧ val (pre ++ [b]) = n ∧ (pre = [] ∨ b.toNat ≠ 0)
  | 0, n, h0, h1 => by
    have e := by_toNat (n := n) h0 (by omega)
    refine ⟨[], by_ n, rfl, by simp, by simp, by omega, ?_, .inl rfl⟩
    simp [val]
    omega
  | f + 1, n, h0, h1 => by
    by_cases h : n < 128
    · have e := by_toNat (n := n) h0 (by omega)
      refine ⟨[], by_ n, by rw [nl, if_pos h]; rfl, by simp, by simp, by omega, ?_, .inl rfl⟩
      simp [val]
      omega
    · have hp : (128 : Int) ^ (f + 1 + 1) = 128 ^ (f + 1) * 128 := Int.pow_succ ..
      obtain ⟨pre, b, e1, e2, e3, e4, e5, e6⟩ := nl_form f (n / 128) (by omega) (by omega)
      have e := by_toNat (n := n % 128 + 128) (by omega) (by omega)
      refine ⟨by_ (n % 128 + 128) :: pre, b, ?_, by simp; omega, ?_, e4, ?_, .inr ?_⟩
      · rw [nl, if_neg h, List.map_cons, e1]
        rfl
      · intro c hc
        rcases List.mem_cons.1 hc with rfl | hc
        · omega
        · exact e3 c hc
      · rw [List.cons_append, val, e5]
        omega
      · rcases e6 with h6 | h6
        · subst h6
          intro hz
          simp [val, hz] at e5
          omega
        · exact h6
theorem numS_form {n : Int} (h0 : 0 ≤ n) (h1 : n ≤ 2147483647) : ∃ pre b, (numS n).toList = pre ++ [b] ∧ pre.length ≤ 4 ∧ (∀ c ∈ pre, 128 ≤ c.toNat) ∧ b.toNat < 128 ∧ val (pre ++ [b]) = n ∧ (pre = [] ∨ b.toNat ≠ 0) := by
  obtain ⟨pre, b, e⟩ := nl_form 4 n h0 (by omega)
  refine ⟨pre, b, ?_, e.2⟩
  unfold numS
  rw [if_pos ⟨h0, h1⟩, strOf_toList, e.1]
theorem tn_steps (s : ByteArray) : ∀ (d i e : Nat), i ≤ e → e < i + d → e < s.size → (∀ j : Nat, j < e → 128 ≤ bt s (j : Int)) → bt s (e : Int) < 128 → tn s d i = fin s e
  | 0, i, e, h1, h2, h3, h4, h5 => absurd h2 (by omega)
  | d + 1, i, e, h1, h2, h3, h4, h5 => by
    rw [tn, if_neg (by omega)]
    by_cases he : i = e
    · subst he
      rw [if_pos h5]
    · have := h4 i (by omega)
      rw [if_neg (by omega), tn_steps s d (i + 1) e (by omega) (by omega) h3 h4 h5]
theorem bt_of (s : ByteArray) (i : Nat) (c : UInt8) (h : s.toList[i]? = some c) : bt s (i : Int) = (c.toNat : Int) := by
  obtain ⟨hi, he⟩ := List.getElem?_eq_some_iff.1 h
  rw [bt_toList s i (by rw [← size_toList]; exact hi), he]
theorem tn_num (n : Int) (h0 : 0 ≤ n) (h1 : n ≤ 2147483647) (r : ByteArray) : tn (numS n ++ r) 5 0 = (n, r, 0) := by
  obtain ⟨pre, b, e1, e2, e3, e4, e5, e6⟩ := numS_form h0 h1
  have hs : (numS n ++ r).toList = pre ++ [b] ++ r.toList := by rw [toList_append, e1]
  have hz : (numS n ++ r).size = pre.length + 1 + r.size := by rw [← size_toList, hs]; simp [size_toList]; omega
  have hlast : bt (numS n ++ r) (pre.length : Int) = (b.toNat : Int) := bt_of _ _ _ (by rw [hs]; simp)
  have hpre : ∀ j : Nat, j < pre.length → 128 ≤ bt (numS n ++ r) (j : Int) := by
    intro j hj
    rw [bt_of (numS n ++ r) j pre[j] (by rw [hs, List.append_assoc, List.getElem?_append_left hj, List.getElem?_eq_getElem hj])]
    have := e3 pre[j] (List.getElem_mem hj)
    omega
  rw [tn_steps (numS n ++ r) 5 0 pre.length (by omega) (by omega) (by omega) hpre (by omega)]
  have ht : (numS n ++ r).toList.take (pre.length + 1) = pre ++ [b] := by rw [hs, List.take_append_of_le_length (by simp), List.take_of_length_le (by simp)]
  unfold fin
  rw [ht, e5, if_neg (by omega), hlast, if_neg]
  · have : (numS n ++ r).extract (pre.length + 1) (numS n ++ r).size = r := by
      apply bytes_ext
      rw [toList_extract, List.take_of_length_le (by rw [size_toList]; omega), hs]
      simp
    rw [this]
  · rintro ⟨h, h'⟩
    rcases e6 with h6 | h6
    · rw [h6] at h
      simp at h
    · omega
/-- fewer bytes than the number's -/
theorem ext_app (s r : ByteArray) : (s ++ r).extract 0 s.size = s := by
  apply bytes_ext
  rw [toList_extract, toList_append, List.drop_zero, ← size_toList]
  simp
theorem ext_app' (s r : ByteArray) : (s ++ r).extract s.size (s ++ r).size = r := by
  apply bytes_ext
  rw [toList_extract, List.take_of_length_le (by rw [size_toList]; omega), toList_append, ← size_toList]
  simp
/-- a text that was written is read back -/
theorem tt_txt (s r : ByteArray) (m : Int) (hs : (s.size : Int) ≤ m) (hb : s.size ≤ 5000) : tt (txt s ++ r) m = (s, r, 0) := by
  unfold tt txt
  rw [app_assoc, tn_num (s.size : Int) (by omega) (by omega)]
  unfold cut
  have : (s ++ r).size = s.size + r.size := ByteArray.size_append
  rw [if_pos rfl, if_neg (by simpa using hs), if_neg (by simp only; omega)]
  simp only [Int.toNat_natCast]
  rw [ext_app, ext_app']
end Go.Proofs.Ytnklnjghecmihaa.BackSpec
