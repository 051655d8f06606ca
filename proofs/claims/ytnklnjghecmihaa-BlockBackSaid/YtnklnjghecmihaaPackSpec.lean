/- What block.Pack and the document's Pack answer: one plain function for both. Conditions: texts of at most 5000 bytes, at most 5000 entries. -/
import Derived.Test.YtnklnjghecmihaaH6x20
import Derived.Test.YtnklnjghecmihaaH6x37
import Derived.Test.YtnklnjghecmihaaH6x21
import Derived.Test.YtnklnjghecmihaaH6x29
import Derived.Test.YtnklnjghecmihaaH6SBackSpec
import Derived.Test.YtnklnjghecmihaaUnpSpec
set_option linter.unusedVariables false
set_option linter.unusedSimpArgs false
namespace Go.Proofs.Ytnklnjghecmihaa.PackSpec
open Go.RowKit Go.Proofs.Ytnklnjghecmihaa.H6 Go.Proofs.Ytnklnjghecmihaa.WordSpec Go.Proofs.Ytnklnjghecmihaa.NumSpec Go.Proofs.Ytnklnjghecmihaa.TextSpec Go.Proofs.Ytnklnjghecmihaa.BackSpec Go.Proofs.Ytnklnjghecmihaa.UnpSpec Go.Proofs.YtnklnjghecmihaaW.PrintWords Go.Proofs.YtnklnjghecmihaaW.PrintLast Go.Proofs.YtnklnjghecmihaaW.PrintMore Go.Proofs.YtnklnjghecmihaaW.Mine Go.Proofs.YtnklnjghecmihaaW.Ord
/-- do entries rise, behind a key? -/
def rl : ByteArray → Bool → List S25 → Bool
  | _, _, [] => true
  | last, first, x :: r => (first || Op.bytesLess last.toList x.f0.toList) && rl x.f0 false r
theorem prev (l : List S25) (i : Nat) (h : 1 ≤ i) : rd_T25 l ((i : Int) - 1) = rd_T25 l (((i - 1 : Nat)) : Int) := by congr 1; omega
theorem fold_loop (l : List S25) (hl : l.length < 1000000) : ∀ (d i k : Nat), d = l.length - i → 1 ≤ i → d < k → fold_Rises.l0 k l (l.length : Int) (i : Int) = some (rl (rd_T25 l ((i : Int) - 1)).f0 false (l.drop i))
  | d, i, 0, _, _, h => absurd h (by omega)
  | d, i, k + 1, hd, hi, hk => by
    rw [fold_Rises.l0]
    by_cases h : i < l.length
    · have e : wrap64 ((i : Int) - 1) = (i : Int) - 1 := wrap64_id (by omega) (by omega)
      have e1 : wrap64 ((i : Int) + 1) = ((i + 1 : Nat) : Int) := by rw [wrap64_id (by omega) (by omega)]; omega
      rw [if_pos (by omega), if_pos (by omega), e, if_pos (by omega), if_pos (by omega), if_pos (by omega), if_pos (by omega), block_Pack.drop h, rl, e1, fold_loop l hl (d - 1) (i + 1) k (by omega) (by omega) (by omega), show ((i + 1 : Nat) : Int) - 1 = (i : Int) from by omega]
      cases Op.bytesLess (rd_T25 l ((i : Int) - 1)).f0.toList (rd_T25 l (i : Int)).f0.toList <;> simp
    · rw [if_neg (by omega), List.drop_eq_nil_iff.2 (by omega), rl]
theorem rises_f (l : List S25) (hl : l.length < 1000000) (k : Nat) (hk : l.length + 2 < k) : fold_Rises.f k l = some (rl ⟨#[]⟩ true l) := by
  obtain ⟨k, rfl⟩ : ∃ m, k = m + 1 := ⟨k - 1, by omega⟩
  unfold fold_Rises.f
  rw [fold_Rises.l0]
  cases l with
  | nil => rfl
  | cons x r =>
    have h := fold_loop (x :: r) hl r.length 1 k (by simp) (by omega) (by simp at hk; omega)
    rw [if_pos (by simp only [List.length_cons]; omega), if_neg (by omega), show wrap64 (0 + 1) = ((1 : Nat) : Int) from by rw [wrap64_id (by omega) (by omega)]; rfl, h]
    rfl
theorem refRises_loop (l : List S25) (hl : l.length < 1000000) : ∀ (d i k : Nat), d = l.length - i → 1 ≤ i → d < k → catchmentref05_Rises.l0 k l (i : Int) = some (rl (rd_T25 l ((i : Int) - 1)).f0 false (l.drop i))
  | d, i, 0, _, _, h => absurd h (by omega)
  | d, i, k + 1, hd, hi, hk => by
    rw [catchmentref05_Rises.l0]
    by_cases h : i < l.length
    · have e : wrap64 ((i : Int) - 1) = (i : Int) - 1 := wrap64_id (by omega) (by omega)
      have e1 : wrap64 ((i : Int) + 1) = ((i + 1 : Nat) : Int) := by rw [wrap64_id (by omega) (by omega)]; omega
      rw [if_pos (by omega), e, if_pos (by omega), if_pos (by omega), if_pos (by omega), block_Pack.drop h, rl, e1, refRises_loop l hl (d - 1) (i + 1) k (by omega) (by omega) (by omega), show ((i + 1 : Nat) : Int) - 1 = (i : Int) from by omega]
      cases Op.bytesLess (rd_T25 l ((i : Int) - 1)).f0.toList (rd_T25 l (i : Int)).f0.toList <;> simp
    · rw [if_neg (by omega), List.drop_eq_nil_iff.2 (by omega), rl]
theorem refRises_f (l : List S25) (hl : l.length < 1000000) (k : Nat) (hk : l.length + 2 < k) : catchmentref05_Rises.f k l = some (rl ⟨#[]⟩ true l) := by
  unfold catchmentref05_Rises.f
  cases l with
  | nil =>
    obtain ⟨k, rfl⟩ : ∃ m, k = m + 1 := ⟨k - 1, by omega⟩
    rw [catchmentref05_Rises.l0]
    rfl
  | cons x r =>
    have h := refRises_loop (x :: r) hl r.length 1 k (by simp) (by omega) (by simp at hk; omega)
    exact h.trans rfl
theorem shd_sz (a b : ByteArray) : ∀ d i, i + d = a.size → i ≤ b.size → shd a b d i ≤ a.size ∧ shd a b d i ≤ b.size
  | 0, i, h, hb => by rw [shd]; omega
  | d + 1, i, h, hb => by
    rw [shd]
    split
    · exact shd_sz a b d (i + 1) (by omega) (by omega)
    · omega
theorem sh_sz (a b : ByteArray) : sh a b ≤ a.size ∧ sh a b ≤ b.size := shd_sz a b a.size 0 (by omega) (Nat.zero_le _)
theorem sh_nil (b : ByteArray) : sh ⟨#[]⟩ b = 0 := rfl
/-- the entries' bytes, behind a key -/
def pk : ByteArray → List S25 → ByteArray
  | _, [] => ⟨#[]⟩
  | last, x :: r => numS ((sh last x.f0 : Nat) : Int) ++ cat [x.f0.extract (sh last x.f0) x.f0.size, x.f1] ++ pk x.f0 r
def pack (l : List S25) : ByteArray := if rl ⟨#[]⟩ true l = true then numS (l.length : Int) ++ pk ⟨#[]⟩ l else ⟨#[]⟩
def Fits (l : List S25) : Prop := ∀ x ∈ l, x.f0.size ≤ 5000 ∧ x.f1.size ≤ 5000
theorem ext_sz (s : ByteArray) (n : Nat) : (s.extract n s.size).size = s.size - n := by rw [ByteArray.size_extract]; omega
theorem two_sz {a b : ByteArray} (ha : a.size ≤ 5000) (hb : b.size ≤ 5000) (n : Nat) : ∀ s ∈ [a.extract n a.size, b], s.size ≤ 5000 := by
  intro s hs
  rcases List.mem_cons.1 hs with rfl | hs
  · rw [ext_sz]; omega
  · obtain rfl : s = b := by simpa using hs
    exact hb
theorem go_f (k : Nat) (hk : 5010 ≤ k) : ∀ (l : List S25) (last acc : ByteArray), Fits l → last.size ≤ 5000 → acc.size + 20000 * l.length ≤ 140737488355328 → block_Pack.go k l last acc = some (acc ++ pk last l)
  | [], last, acc, _, _, _ => by rw [block_Pack.go, pk, app_nil]
  | x :: r, last, acc, hF, hL, hs => by
    have hx := hF x (by simp)
    have h1 := sh_sz last x.f0
    have h2 := numS_size ((sh last x.f0 : Nat) : Int)
    have h3 := cat_size _ (two_sz hx.1 hx.2 (sh last x.f0))
    simp only [List.length_cons, List.length_nil] at hs h3
    rw [block_Pack.go, shared_f last x.f0 (by omega) k (by omega), Option.bind_some, if_pos (by omega), num_f k (by omega), Option.bind_some, Int.toNat_natCast, texts_f k (by omega) _ (two_sz hx.1 hx.2 _) (by simp), Option.bind_some, if_pos (by omega),
      go_f k hk r x.f0 _ (fun y hy => hF y (by simp [hy])) hx.1 (by rw [ByteArray.size_append, ByteArray.size_append]; omega), pk, app_assoc, app_assoc, app_assoc]
theorem pack_f (k : Nat) (l : List S25) (hF : Fits l) (hl : l.length ≤ 5000) (hk : 5010 ≤ k) : block_Pack.f k l = some (pack l) := by
  have h := numS_size (l.length : Int)
  have e0 : (⟨#[]⟩ : ByteArray).size = 0 := rfl
  unfold block_Pack.f pack
  rw [rises_f l (by omega) k (by omega), Option.bind_some]
  split
  · rw [if_pos (by omega), num_f k (by omega), Option.bind_some, if_pos (by omega), go_f k hk l _ _ hF (by omega) (by omega)]
  · rfl
theorem refPack_loop (l : List S25) (hF : Fits l) (hl : l.length ≤ 5000) : ∀ (d i k : Nat) (acc : ByteArray), i + d = l.length → 2 * d + 11000 < k → acc.size + 20000 * d ≤ 140737488355328 → catchmentref10_Pack.l0 k l acc (i : Int) = some (acc ++ pk (if i = 0 then ⟨#[]⟩ else (rd_T25 l ((i : Int) - 1)).f0) (l.drop i))
  | d, i, 0, _, _, h, _ => absurd h (by omega)
  | 0, i, k + 1, acc, hd, hk, hs => by rw [catchmentref10_Pack.l0, if_neg (by omega), List.drop_eq_nil_iff.2 (by omega), pk, app_nil]
  | d + 1, i, k + 1, acc, hd, hk, hs => by
    obtain ⟨k, rfl⟩ : ∃ m, k = m + 1 := ⟨k - 1, by omega⟩
    have hi : i < l.length := by omega
    have e : wrap64 ((i : Int) - 1) = (i : Int) - 1 ∨ i = 0 := by
      by_cases h : i = 0
      · exact .inr h
      · exact .inl (wrap64_id (by omega) (by omega))
    have e1 : wrap64 ((i : Int) + 1) = ((i + 1 : Nat) : Int) := by rw [wrap64_id (by omega) (by omega)]; omega
    have hm : ∀ j : Nat, j < l.length → (rd_T25 l (j : Int)).f0.size ≤ 5000 ∧ (rd_T25 l (j : Int)).f1.size ≤ 5000 := fun j hj => by
      have := block_Pack.drop hj
      exact hF _ (List.mem_of_mem_drop (this ▸ List.mem_cons_self))
    have hx := hm i hi
    have J : ∀ last : ByteArray, last.size ≤ 5000 → catchmentref10_Pack.j1 (k + 1) l acc (i : Int) ((sh last (rd_T25 l (i : Int)).f0 : Nat) : Int) = some (acc ++ pk last (l.drop i)) := fun last hL => by
      have ih := refPack_loop l hF hl d (i + 1) k (acc ++ numS ((sh last (rd_T25 l (i : Int)).f0 : Nat) : Int) ++ cat [(rd_T25 l (i : Int)).f0.extract (sh last (rd_T25 l (i : Int)).f0) (rd_T25 l (i : Int)).f0.size, (rd_T25 l (i : Int)).f1]) (by omega) (by omega)
      rw [block_Pack.drop hi, catchmentref10_Pack.j1]
      rw [if_neg (by omega), show ((i + 1 : Nat) : Int) - 1 = (i : Int) from by omega] at ih
      generalize rd_T25 l (i : Int) = x at hx ih ⊢
      have h1 := sh_sz last x.f0
      have h2 := numS_size ((sh last x.f0 : Nat) : Int)
      have h3 := cat_size _ (two_sz hx.1 hx.2 (sh last x.f0))
      simp only [List.length_cons, List.length_nil] at h3
      rw [refNum_f k (by omega), Option.bind_some, if_pos (by omega), if_pos (by omega), if_pos (by omega), if_pos (by omega), if_pos (by omega), Int.toNat_natCast, refTexts_f k (by omega) _ (two_sz hx.1 hx.2 _) (by simp), Option.bind_some, if_pos (by rw [ByteArray.size_append]; omega), e1,
        ih (by rw [ByteArray.size_append, ByteArray.size_append]; omega), pk, app_assoc, app_assoc, app_assoc]
    rw [catchmentref10_Pack.l0, if_pos (by omega)]
    rcases e with e | rfl
    · by_cases h0 : i = 0
      · subst h0
        rw [if_neg (by omega), if_pos rfl]
        exact J ⟨#[]⟩ (Nat.zero_le _)
      · have hp := (hm (i - 1) (by omega)).1
        rw [← prev l i (by omega)] at hp
        rw [if_pos (by omega), e, if_pos (by omega), if_pos (by omega), if_pos (by omega), refShared_f _ _ (by omega) (k + 1) (by omega), Option.bind_some, if_neg h0, J _ hp]
    · rw [if_neg (by omega), if_pos rfl]
      exact J ⟨#[]⟩ (Nat.zero_le _)
theorem refPack_f (k : Nat) (l : List S25) (hF : Fits l) (hl : l.length ≤ 5000) (hk : 30000 ≤ k) : catchmentref10_Pack.f k l = some (pack l) := by
  have h := numS_size (l.length : Int)
  unfold catchmentref10_Pack.f pack
  rw [refRises_f l (by omega) k (by omega), Option.bind_some]
  split
  · rw [refNum_f k (by omega), Option.bind_some]
    exact (refPack_loop l hF hl l.length 0 k _ (by omega) (by omega) (by omega)).trans (by rw [if_pos rfl, List.drop_zero])
  · rfl
theorem same_loop (l : List S25) (hl : l.length < 1000000) : ∀ (d i k : Nat), d = l.length - i → i ≤ l.length → d < k → catchmentref05_Same.l0 k l l (i : Int) = some true
  | d, i, 0, _, _, h => absurd h (by omega)
  | 0, i, k + 1, hd, hi, hk => by rw [catchmentref05_Same.l0, if_neg (by omega)]
  | d + 1, i, k + 1, hd, hi, hk => by
    rw [catchmentref05_Same.l0, if_pos (by omega), if_pos (by omega), if_pos (by omega), if_neg (by simp), show wrap64 ((i : Int) + 1) = ((i + 1 : Nat) : Int) from by rw [wrap64_id (by omega) (by omega)]; omega]
    exact same_loop l hl d (i + 1) k (by omega) (by omega) (by omega)
theorem same_f (l : List S25) (hl : l.length < 1000000) (k : Nat) (hk : l.length < k) : catchmentref05_Same.f k l l = some true := by
  unfold catchmentref05_Same.f
  rw [if_pos rfl]
  exact same_loop l hl l.length 0 k (by omega) (by omega) hk
theorem hlive_90 : catchmentlaw10_live.f 90 = some true := by decide +kernel
theorem hlive_ge {k : Nat} (h : 90 ≤ k) : catchmentlaw10_live.f k = some true := by
  obtain ⟨m, rfl⟩ : ∃ m, k = 90 + m := ⟨k - 90, by omega⟩
  induction m with
  | zero => exact hlive_90
  | succ m ih => exact catchmentlaw10_live.mono (90 + m) _ (ih (by omega))
/-- no more entries come out of bytes than there are bytes -/
theorem un_len : ∀ (m : Nat) (first : Bool) (rest last : ByteArray) (acc : List S25), (un m first rest last acc).2.1.length ≤ acc.length + rest.size
  | 0, _, rest, _, acc => Nat.le_add_right _ _
  | m + 1, first, rest, last, acc => by
    rw [un]
    by_cases c : (st rest last first).1 = 0
    · have h := st_size rest last first c
      have ih := un_len m false (st rest last first).2.2.2 (st rest last first).2.1 (acc ++ [⟨(st rest last first).2.1, (st rest last first).2.2.1⟩])
      rw [List.length_append, List.length_singleton] at ih
      rw [if_pos c]
      omega
    · rw [if_neg c]
      exact Nat.zero_le _
theorem fin_len (u : Int × List S25 × ByteArray) : (block_Unpack.fin u).1.length ≤ u.2.1.length := by
  unfold block_Unpack.fin
  split
  · exact Nat.zero_le _
  · split
    · exact Nat.le_refl _
    · exact Nat.zero_le _
/-- what both Unpacks answer -/
def unp (s : ByteArray) : List S25 × Int := if (tn s 5 0).2.2 ≠ 0 then ([], (tn s 5 0).2.2) else block_Unpack.fin (un (tn s 5 0).1.toNat true (tn s 5 0).2.1 ⟨#[]⟩ [])
theorem unp_len (s : ByteArray) : (unp s).1.length ≤ s.size := by
  have h := tn_size s 5 0
  unfold unp
  split
  · exact Nat.zero_le _
  · have h1 := fin_len (un (tn s 5 0).1.toNat true (tn s 5 0).2.1 ⟨#[]⟩ [])
    have h2 := un_len (tn s 5 0).1.toNat true (tn s 5 0).2.1 ⟨#[]⟩ []
    rw [List.length_nil] at h2
    omega
end Go.Proofs.Ytnklnjghecmihaa.PackSpec
