/- What is packed is unpacked as it was, and what is unpacked is packed as those bytes. Conditions: texts of at most 5000 bytes. -/
import Derived.Test.YtnklnjghecmihaaPackSpec
set_option linter.unusedVariables false
set_option linter.unusedSimpArgs false
namespace Go.Proofs.Ytnklnjghecmihaa.InvSpec
open Go.RowKit Go.Proofs.Ytnklnjghecmihaa.H6 Go.Proofs.Ytnklnjghecmihaa.WordSpec Go.Proofs.Ytnklnjghecmihaa.NumSpec Go.Proofs.Ytnklnjghecmihaa.TextSpec Go.Proofs.Ytnklnjghecmihaa.BackSpec Go.Proofs.Ytnklnjghecmihaa.UnpSpec Go.Proofs.Ytnklnjghecmihaa.PackSpec Go.Proofs.YtnklnjghecmihaaW.PrintWords Go.Proofs.YtnklnjghecmihaaW.PrintLast Go.Proofs.YtnklnjghecmihaaW.PrintMore Go.Proofs.YtnklnjghecmihaaW.Mine Go.Proofs.YtnklnjghecmihaaW.Ord
theorem tk (s : ByteArray) : s.toList.take s.size = s.toList := List.take_of_length_le (by rw [size_toList]; exact Nat.le_refl _)
theorem tn_inv (s : ByteArray) : ∀ d i, i + d = 5 → (∀ j : Nat, j < i → 128 ≤ bt s (j : Int)) → (tn s d i).2.2 = 0 → s = numS (tn s d i).1 ++ (tn s d i).2.1
  | 0, i, _, _, h => absurd h (by simp [tn])
  | d + 1, i, hd, hp, h => by
    rw [tn] at h ⊢
    by_cases h1 : s.size ≤ i
    · rw [if_pos h1] at h
      exact absurd h (by decide)
    · rw [if_neg h1] at h ⊢
      by_cases h2 : bt s (i : Int) < 128
      · have hl : s.toList.length = s.size := size_toList s
        rw [if_pos h2] at h ⊢
        unfold fin at h ⊢
        have hv := val_bound (s.toList.take (i + 1))
        have hsplit : s.toList.take (i + 1) = s.toList.take i ++ [s.toList[i]'(by omega)] := List.take_succ_eq_append_getElem (by omega)
        have hbe := bt_toList s i (by omega)
        have hiff := nl_val (s.toList.take i) 4 (s.toList[i]'(by omega)) (by rw [List.length_take]; omega) (pre_of (by omega) hp) (by omega)
        rw [← hsplit] at hiff
        by_cases h3 : val (s.toList.take (i + 1)) > 2147483647
        · rw [if_pos h3] at h
          exact absurd h (by decide)
        · rw [if_neg h3] at h ⊢
          by_cases h4 : 0 < i ∧ bt s (i : Int) = 0
          · rw [if_pos h4] at h
            exact absurd h (by decide)
          · rw [if_neg h4]
            apply bytes_ext
            have hn : (numS (val (s.toList.take (i + 1)))).toList = s.toList.take (i + 1) := by
              unfold numS
              rw [if_pos ⟨hv.1, by omega⟩, strOf_toList]
              refine hiff.2 ?_
              by_cases he0 : i = 0
              · left; rw [he0]; rfl
              · right
                intro hz
                exact h4 ⟨by omega, by omega⟩
            rw [toList_append, hn, toList_extract, tk, List.take_append_drop]
      · rw [if_neg h2] at h ⊢
        refine tn_inv s d (i + 1) (by omega) (fun j hj => ?_) h
        rcases Nat.lt_or_ge j i with h3 | h3
        · exact hp j h3
        · obtain rfl : j = i := by omega
          omega
theorem num_inv (s : ByteArray) (h : (tn s 5 0).2.2 = 0) : s = numS (tn s 5 0).1 ++ (tn s 5 0).2.1 := tn_inv s 5 0 rfl (fun j hj => absurd hj (by omega)) h
theorem tt_inv (s : ByteArray) (m : Int) (h : (tt s m).2.2 = 0) : s = txt (tt s m).1 ++ (tt s m).2.1 := by
  have h0 := tn_nonneg s 5 0
  have hi := num_inv s
  unfold tt at h ⊢
  generalize tn s 5 0 = t at h h0 hi ⊢
  unfold cut at h ⊢
  by_cases h1 : t.2.2 = 0
  · rw [if_pos h1] at h ⊢
    by_cases h2 : t.1 > m
    · rw [if_pos h2] at h
      exact absurd h (by decide)
    · rw [if_neg h2] at h ⊢
      by_cases h3 : t.1 > (t.2.1.size : Int)
      · rw [if_pos h3] at h
        exact absurd h (by decide)
      · rw [if_neg h3]
        have hz : (((t.2.1.extract 0 t.1.toNat).size : Nat) : Int) = t.1 := by rw [ByteArray.size_extract]; omega
        refine (hi h1).trans ?_
        unfold txt
        rw [hz, app_assoc]
        congr 1
        apply bytes_ext
        rw [toList_append, toList_extract, toList_extract, List.drop_zero, tk, List.take_append_drop]
  · rw [if_neg h1] at h
    exact absurd h h1
theorem shd_eq (a b : ByteArray) : ∀ d i, i + d = a.size → (∀ j : Nat, j < i → bt a (j : Int) = bt b (j : Int)) → ∀ j : Nat, j < shd a b d i → bt a (j : Int) = bt b (j : Int)
  | 0, i, hd, h, j, hj => h j (by rw [shd] at hj; exact hj)
  | d + 1, i, hd, h, j, hj => by
    rw [shd] at hj
    by_cases c : i < a.size ∧ i < b.size ∧ bt a (i : Int) = bt b (i : Int)
    · rw [if_pos c] at hj
      refine shd_eq a b d (i + 1) (by omega) (fun q hq => ?_) j hj
      rcases Nat.lt_or_ge q i with h1 | h1
      · exact h q h1
      · obtain rfl : q = i := by omega
        exact c.2.2
    · rw [if_neg c] at hj
      exact h j hj
theorem sh_front (a b : ByteArray) : a.extract 0 (sh a b) = b.extract 0 (sh a b) := by
  have hz := sh_sz a b
  have h := shd_eq a b a.size 0 (by omega) (fun j hj => absurd hj (by omega))
  have ha := size_toList a
  have hb := size_toList b
  apply bytes_ext
  rw [toList_extract, toList_extract, List.drop_zero, List.drop_zero]
  refine List.ext_getElem (by rw [List.length_take, List.length_take]; omega) fun j h1 h2 => ?_
  rw [List.length_take] at h1
  rw [List.getElem_take, List.getElem_take]
  have hj := h j (by unfold sh at h1; omega)
  rw [bt_toList a j (by omega), bt_toList b j (by omega)] at hj
  exact UInt8.toNat_inj.1 (by exact_mod_cast hj)
theorem sh_back (a b : ByteArray) : a.extract 0 (sh a b) ++ b.extract (sh a b) b.size = b := by
  rw [sh_front]
  apply bytes_ext
  rw [toList_append, toList_extract, toList_extract, List.drop_zero, tk, List.take_append_drop]
theorem cat_two (a b : ByteArray) : cat [a, b] = txt a ++ txt b := by rw [cat, cat, cat, app_nil]
/-- an entry that is packed is read back -/
theorem st_pk (last : ByteArray) (first : Bool) (x : S25) (rest : ByteArray) (hl : last.size ≤ 5000) (h0 : x.f0.size ≤ 256) (h1 : x.f1.size ≤ 4096) (hr : (first || Op.bytesLess last.toList x.f0.toList) = true) :
    st (numS ((sh last x.f0 : Nat) : Int) ++ cat [x.f0.extract (sh last x.f0) x.f0.size, x.f1] ++ rest) last first = (0, x.f0, x.f1, rest) := by
  have hz := sh_sz last x.f0
  have e := sh_back last x.f0
  have hx := ext_sz x.f0 (sh last x.f0)
  have en : tn (numS ((sh last x.f0 : Nat) : Int) ++ (txt (x.f0.extract (sh last x.f0) x.f0.size) ++ (txt x.f1 ++ rest))) 5 0 = (((sh last x.f0 : Nat) : Int), txt (x.f0.extract (sh last x.f0) x.f0.size) ++ (txt x.f1 ++ rest), 0) := tn_num _ (by omega) (by omega) _
  have e1 : tt (txt (x.f0.extract (sh last x.f0) x.f0.size) ++ (txt x.f1 ++ rest)) 256 = (x.f0.extract (sh last x.f0) x.f0.size, txt x.f1 ++ rest, 0) := tt_txt _ _ _ (by omega) (by omega)
  have e2 : tt (txt x.f1 ++ rest) 4096 = (x.f1, rest, 0) := tt_txt _ _ _ (by omega) (by omega)
  have hb : bad last x.f0 first ((sh last x.f0 : Nat) : Int) = false := by
    unfold bad
    have hbne : (((sh last x.f0 : Nat) : Int) != ((sh last x.f0 : Nat) : Int)) = false := by simp
    rw [hbne, Bool.or_false]
    cases first <;> simp at hr ⊢ <;> exact hr
  rw [cat_two, app_assoc, app_assoc]
  unfold st
  simp only [en, e1, e2, Int.toNat_natCast, e, hb]
  rw [if_neg (by decide), if_neg (by omega), if_neg (by decide), if_neg (by decide), if_neg (by decide)]
theorem un_pk : ∀ (l : List S25) (first : Bool) (last : ByteArray) (acc : List S25), last.size ≤ 5000 → (∀ x ∈ l, x.f0.size ≤ 256 ∧ x.f1.size ≤ 4096) → rl last first l = true → un l.length first (pk last l) last acc = (0, acc ++ l, ⟨#[]⟩)
  | [], first, last, acc, _, _, _ => by rw [List.length_nil, un, pk, List.append_nil]
  | x :: r, first, last, acc, hl, hF, hr => by
    have hx := hF x (by simp)
    rw [rl, Bool.and_eq_true] at hr
    rw [List.length_cons, un, pk, st_pk last first x _ hl hx.1 hx.2 hr.1, if_pos rfl, un_pk r false x.f0 _ (by omega) (fun y hy => hF y (by simp [hy])) hr.2, List.append_assoc]
    rfl
theorem unp_pack (l : List S25) (hl : l.length ≤ 5000) (hF : ∀ x ∈ l, x.f0.size ≤ 256 ∧ x.f1.size ≤ 4096) (hr : rl ⟨#[]⟩ true l = true) : unp (pack l) = (l, 0) := by
  have e : tn (numS (l.length : Int) ++ pk ⟨#[]⟩ l) 5 0 = ((l.length : Int), pk ⟨#[]⟩ l, 0) := tn_num _ (by omega) (by omega) _
  unfold unp pack
  rw [if_pos hr, e, if_neg (fun h => h rfl)]
  simp only [Int.toNat_natCast]
  rw [un_pk l true _ _ (Nat.zero_le _) hF hr, List.nil_append]
  unfold block_Unpack.fin
  rw [if_neg (fun h => h rfl), if_pos toList_empty]
theorem pk_size : ∀ (l : List S25) (last : ByteArray), Fits l → (pk last l).size ≤ 10020 * l.length
  | [], last, _ => Nat.zero_le _
  | x :: r, last, hF => by
    have hx := hF x (by simp)
    have h2 := numS_size ((sh last x.f0 : Nat) : Int)
    have h3 := cat_size _ (two_sz hx.1 hx.2 (sh last x.f0))
    have ih := pk_size r x.f0 (fun y hy => hF y (by simp [hy]))
    simp only [List.length_cons, List.length_nil] at h3 ⊢
    rw [pk, ByteArray.size_append, ByteArray.size_append]
    omega
theorem pack_size (l : List S25) (hF : Fits l) : (pack l).size ≤ 10020 * l.length + 5 := by
  have h := numS_size (l.length : Int)
  have h2 := pk_size l ⟨#[]⟩ hF
  unfold pack
  split
  · rw [ByteArray.size_append]
    omega
  · exact Nat.zero_le _
/-- an entry that is read is packed as those bytes -/
theorem pk_st (s last : ByteArray) (first : Bool) (h : (st s last first).1 = 0) :
    s = numS ((sh last (st s last first).2.1 : Nat) : Int) ++ cat [(st s last first).2.1.extract (sh last (st s last first).2.1) (st s last first).2.1.size, (st s last first).2.2.1] ++ (st s last first).2.2.2 ∧ (first || Op.bytesLess last.toList (st s last first).2.1.toList) = true ∧ (st s last first).2.2.1.size ≤ s.size := by
  have ha := tn_nonneg s 5 0
  have hn := num_inv s
  have ht1 := tn_size s 5 0
  have ho := tt_one (tn s 5 0).2.1 256
  have ho2 := tt_one (tt (tn s 5 0).2.1 256).2.1 4096
  have hm := tt_inv (tn s 5 0).2.1 256
  have hv := tt_inv (tt (tn s 5 0).2.1 256).2.1 4096
  unfold st at h ⊢
  by_cases c1 : (tn s 5 0).2.2 ≠ 0
  · rw [if_pos c1] at h
    exact absurd h c1
  · have hn := hn (Decidable.not_not.1 c1)
    rw [if_neg c1] at h ⊢
    by_cases c2 : (tn s 5 0).1 > (last.size : Int)
    · rw [if_pos c2] at h
      exact absurd h (by decide)
    · rw [if_neg c2] at h ⊢
      by_cases c3 : (tt (tn s 5 0).2.1 256).2.2 ≠ 0
      · rw [if_pos c3] at h
        exact absurd h c3
      · have hm := hm (Decidable.not_not.1 c3)
        rw [if_neg c3] at h ⊢
        by_cases c4 : bad last (last.extract 0 (tn s 5 0).1.toNat ++ (tt (tn s 5 0).2.1 256).1) first (tn s 5 0).1 = true
        · rw [if_pos c4] at h
          exact absurd h (by decide)
        · rw [if_neg c4] at h ⊢
          by_cases c5 : (tt (tt (tn s 5 0).2.1 256).2.1 4096).2.2 ≠ 0
          · rw [if_pos c5] at h
            exact absurd h c5
          · have hv := hv (Decidable.not_not.1 c5)
            rw [if_neg c5]
            simp only
            have hb : bad last (last.extract 0 (tn s 5 0).1.toNat ++ (tt (tn s 5 0).2.1 256).1) first (tn s 5 0).1 = false := by simpa using c4
            unfold bad at hb
            rw [Bool.or_eq_false_iff] at hb
            have hsh : ((sh last (last.extract 0 (tn s 5 0).1.toNat ++ (tt (tn s 5 0).2.1 256).1) : Nat) : Int) = (tn s 5 0).1 := by simpa using hb.2
            have hshN : sh last (last.extract 0 (tn s 5 0).1.toNat ++ (tt (tn s 5 0).2.1 256).1) = (tn s 5 0).1.toNat := by omega
            have hez : (last.extract 0 (tn s 5 0).1.toNat).size = (tn s 5 0).1.toNat := by rw [ByteArray.size_extract]; omega
            have hex := ext_app' (last.extract 0 (tn s 5 0).1.toNat) (tt (tn s 5 0).2.1 256).1
            rw [hez] at hex
            refine ⟨?_, ?_, by omega⟩
            · rw [hsh, hshN, hex, cat_two, app_assoc, app_assoc, ← hv, ← hm]
              exact hn
            · have := hb.1
              cases first
              · simpa using this
              · rfl
theorem un_inv : ∀ (m : Nat) (first : Bool) (rest last : ByteArray) (acc : List S25), last.size + rest.size ≤ 5000 → (un m first rest last acc).1 = 0 → ∃ l, (un m first rest last acc).2.1 = acc ++ l ∧ l.length = m ∧ rl last first l = true ∧ rest = pk last l ++ (un m first rest last acc).2.2 ∧ Fits l
  | 0, first, rest, last, acc, _, _ => ⟨[], by rw [un, List.append_nil], rfl, rfl, by rw [un, pk, nil_app], fun x hx => absurd hx (by simp)⟩
  | m + 1, first, rest, last, acc, hs, h => by
    rw [un] at h ⊢
    by_cases c : (st rest last first).1 = 0
    · have hz := st_size rest last first c
      obtain ⟨h1, h2, h3⟩ := pk_st rest last first c
      rw [if_pos c] at h ⊢
      obtain ⟨l, e1, e2, e3, e4, e5⟩ := un_inv m false (st rest last first).2.2.2 (st rest last first).2.1 _ (by omega) h
      refine ⟨⟨(st rest last first).2.1, (st rest last first).2.2.1⟩ :: l, by rw [e1, List.append_assoc]; rfl, by rw [List.length_cons, e2], by rw [rl, h2, e3]; rfl, ?_, fun x hx => ?_⟩
      · rw [pk, app_assoc, ← e4]
        exact h1
      · rcases List.mem_cons.1 hx with rfl | hx
        · exact ⟨by simp only; omega, by simp only; omega⟩
        · exact e5 x hx
    · rw [if_neg c] at h
      exact absurd h c
theorem unp_fits (s : ByteArray) (hs : s.size ≤ 5000) (h : (unp s).2 = 0) : Fits (unp s).1 ∧ pack (unp s).1 = s := by
  have hz := tn_size s 5 0
  have hn := num_inv s
  have ha := tn_nonneg s 5 0
  have e0 : (⟨#[]⟩ : ByteArray).size = 0 := rfl
  unfold unp at h ⊢
  by_cases c : (tn s 5 0).2.2 ≠ 0
  · rw [if_pos c] at h
    exact absurd h c
  · rw [if_neg c] at h ⊢
    have hi := un_inv (tn s 5 0).1.toNat true (tn s 5 0).2.1 ⟨#[]⟩ [] (by omega)
    generalize un (tn s 5 0).1.toNat true (tn s 5 0).2.1 ⟨#[]⟩ [] = u at h hi ⊢
    unfold block_Unpack.fin at h ⊢
    by_cases c1 : u.1 ≠ 0
    · rw [if_pos c1] at h
      exact absurd h c1
    · rw [if_neg c1] at h ⊢
      by_cases c2 : u.2.2.toList = []
      · rw [if_pos c2]
        obtain ⟨l, e1, e2, e3, e4, e5⟩ := hi (Decidable.not_not.1 c1)
        have e6 : u.2.2 = ⟨#[]⟩ := bytes_ext (by rw [c2, toList_empty])
        rw [List.nil_append] at e1
        rw [e6, app_nil] at e4
        simp only [e1]
        refine ⟨e5, ?_⟩
        unfold pack
        rw [if_pos e3, e2, ← e4, Int.toNat_of_nonneg ha]
        exact (hn (Decidable.not_not.1 c)).symm
      · rw [if_neg c2] at h
        exact absurd h (by decide)
theorem pack_no (k : Nat) (l : List S25) (hl : l.length ≤ 5000) (hk : 5010 ≤ k) (hr : rl ⟨#[]⟩ true l = false) : block_Pack.f k l = some ⟨#[]⟩ := by
  unfold block_Pack.f
  rw [rises_f l (by omega) k (by omega), Option.bind_some, hr, if_neg (by decide)]
end Go.Proofs.Ytnklnjghecmihaa.InvSpec
