/- What block.Unpack and the document's Unpack answer, for any text of at most 1000000 bytes: one plain function for both. -/
import Derived.Test.YtnklnjghecmihaaH6x11
import Derived.Test.YtnklnjghecmihaaH6x34
import Derived.Test.YtnklnjghecmihaaH6STextSpec
set_option linter.unusedVariables false
set_option linter.unusedSimpArgs false
namespace Go.Proofs.Ytnklnjghecmihaa.UnpSpec
open Go.RowKit Go.Proofs.Ytnklnjghecmihaa.H6 Go.Proofs.Ytnklnjghecmihaa.WordSpec Go.Proofs.Ytnklnjghecmihaa.NumSpec Go.Proofs.Ytnklnjghecmihaa.TextSpec Go.Proofs.YtnklnjghecmihaaW.PrintWords Go.Proofs.YtnklnjghecmihaaW.PrintLast Go.Proofs.YtnklnjghecmihaaW.PrintMore Go.Proofs.YtnklnjghecmihaaW.Mine Go.Proofs.YtnklnjghecmihaaW.Ord
/-- from some fuel on -/
def Ev (p : Nat → Prop) : Prop := ∃ K, ∀ k, K ≤ k → p k
theorem Ev.step {p q : Nat → Prop} (h : Ev p) (f : ∀ k, p k → q (k + 1)) : Ev q := by
  obtain ⟨K, h⟩ := h
  refine ⟨K + 1, fun k hk => ?_⟩
  obtain ⟨j, rfl⟩ : ∃ j, k = j + 1 := ⟨k - 1, by omega⟩
  exact f j (h j (by omega))
theorem Ev.and {p q : Nat → Prop} (h : Ev p) (h2 : Ev q) : Ev fun k => p k ∧ q k := by
  obtain ⟨K, h⟩ := h
  obtain ⟨K2, h2⟩ := h2
  exact ⟨max K K2, fun k hk => ⟨h k (by omega), h2 k (by omega)⟩⟩
theorem Ev.mono {p q : Nat → Prop} (h : Ev p) (f : ∀ k, p k → q k) : Ev q := by
  obtain ⟨K, h⟩ := h
  exact ⟨K, fun k hk => f k (h k hk)⟩
theorem Ev.of {p : Nat → Prop} (K : Nat) (h : ∀ k, K ≤ k → p k) : Ev p := ⟨K, h⟩
/-- how many bytes two texts share at the front, from i on -/
def shd (a b : ByteArray) : Nat → Nat → Nat
  | 0, i => i
  | d + 1, i => if i < a.size ∧ i < b.size ∧ bt a (i : Int) = bt b (i : Int) then shd a b d (i + 1) else i
def sh (a b : ByteArray) : Nat := shd a b a.size 0
theorem shd_le (a b : ByteArray) : ∀ d i, i ≤ shd a b d i
  | 0, i => Nat.le_refl i
  | d + 1, i => by
    rw [shd]
    split
    · exact Nat.le_trans (Nat.le_succ i) (shd_le a b d (i + 1))
    · exact Nat.le_refl i
theorem mn_le (a b : Int) : mn a b ≤ a ∧ mn a b ≤ b ∧ (mn a b = a ∨ mn a b = b) := by unfold mn; split <;> omega
theorem shared_loop (a b : ByteArray) (ha : a.size < 9000000) : ∀ (d i k : Nat), i + d = a.size → i ≤ b.size → d < k → key_Shared.l0 k a b (mn (a.size : Int) (b.size : Int)) (mn (a.size : Int) (b.size : Int)) (i : Int) = some ((shd a b d i : Nat) : Int)
  | d, i, 0, _, _, h => absurd h (by omega)
  | d, i, k + 1, h, hb, hk => by
    obtain ⟨m1, m2, m3⟩ := mn_le (a.size : Int) (b.size : Int)
    rw [key_Shared.l0]
    by_cases h1 : (i : Int) < mn (a.size : Int) (b.size : Int)
    · rw [if_pos h1, if_pos (by omega), if_pos (by omega), if_pos (by omega)]
      obtain ⟨e, rfl⟩ : ∃ e, d = e + 1 := ⟨d - 1, by omega⟩
      rw [shd]
      by_cases h2 : bt a (i : Int) = bt b (i : Int)
      · rw [if_pos h2, if_pos ⟨by omega, by omega, h2⟩, wrap64_id (by omega) (by omega)]
        exact_mod_cast shared_loop a b ha e (i + 1) k (by omega) (by omega) (by omega)
      · rw [if_neg h2, if_neg (fun h3 => h2 h3.2.2)]
    · rw [if_neg h1]
      cases d with
      | zero => rw [shd]; congr 1; omega
      | succ d => rw [shd, if_neg (by omega)]; congr 1; omega
theorem shared_f (a b : ByteArray) (ha : a.size < 9000000) (k : Nat) (hk : a.size < k) : key_Shared.f k a b = some ((sh a b : Nat) : Int) := by
  unfold key_Shared.f sh
  exact_mod_cast shared_loop a b ha a.size 0 k (by omega) (Nat.zero_le _) hk
theorem refShared_loop (a b : ByteArray) (ha : a.size < 9000000) : ∀ (d i k : Nat), i + d = a.size → 2 * d + 2 ≤ k → catchmentref10_shared.l0 k a b (i : Int) = some ((shd a b d i : Nat) : Int)
  | d, i, 0, _, h => absurd h (by omega)
  | d, i, 1, _, h => absurd h (by omega)
  | d, i, k + 2, h, hk => by
    rw [catchmentref10_shared.l0]
    by_cases h1 : (i : Int) < (a.size : Int)
    · rw [if_pos h1]
      obtain ⟨e, rfl⟩ : ∃ e, d = e + 1 := ⟨d - 1, by omega⟩
      rw [shd]
      by_cases h3 : (i : Int) < (b.size : Int)
      · rw [if_pos h3, if_pos (by omega), catchmentref10_shared.j1]
        by_cases h2 : bt a (i : Int) = bt b (i : Int)
        · rw [if_pos (by simpa using h2), if_pos ⟨by omega, by omega, h2⟩, wrap64_id (by omega) (by omega)]
          exact_mod_cast refShared_loop a b ha e (i + 1) k (by omega) (by omega)
        · rw [if_neg (by simpa using h2), if_neg (fun h4 => h2 h4.2.2)]
      · rw [if_neg h3, catchmentref10_shared.j1, if_neg (by decide), if_neg (by omega)]
    · rw [if_neg h1, catchmentref10_shared.j1, if_neg (by decide)]
      cases d with
      | zero => rfl
      | succ d => exact absurd h (by omega)
theorem refShared_f (a b : ByteArray) (ha : a.size < 9000000) (k : Nat) (hk : 2 * a.size + 2 ≤ k) : catchmentref10_shared.f k a b = some ((sh a b : Nat) : Int) := by
  unfold catchmentref10_shared.f sh
  exact_mod_cast refShared_loop a b ha a.size 0 k (by omega) hk
/-- what begins with the other's first n bytes shares n of them at least -/
theorem shd_ge (a b : ByteArray) (n : Nat) (hn : n ≤ a.size) (hb : n ≤ b.size) (h : ∀ j : Nat, j < n → bt a (j : Int) = bt b (j : Int)) : ∀ d i, i + d = a.size → i ≤ n → n ≤ shd a b d i
  | 0, i, hd, hi => by rw [shd]; omega
  | d + 1, i, hd, hi => by
    rw [shd]
    by_cases h1 : i < n
    · rw [if_pos ⟨by omega, by omega, h i h1⟩]
      exact shd_ge a b n hn hb h d (i + 1) (by omega) (by omega)
    · have := shd_le a b (d + 1) i
      rw [shd] at this
      omega
theorem sh_ge (a m : ByteArray) (n : Nat) (hn : n ≤ a.size) : n ≤ sh a (a.extract 0 n ++ m) := by
  refine shd_ge a _ n hn (by simp; omega) (fun j hj => ?_) a.size 0 (by omega) (Nat.zero_le _)
  rw [bt_toList a j (by omega), bt_toList _ j (by simp; omega)]
  congr 2
  simp only [toList_append, toList_extract, List.drop_zero]
  rw [List.getElem_append_left (by simp [size_toList]; omega)]
  simp
/-- where the order is wrong, said once -/
def bad (last key : ByteArray) (first : Bool) (n : Int) : Bool := (!first && !(Op.bytesLess last.toList key.toList)) || ((sh last key : Nat) : Int) != n
/-- one entry: what is wrong (0: nothing), its key, its value, what is left -/
def st (s last : ByteArray) (first : Bool) : Int × ByteArray × ByteArray × ByteArray :=
  if (tn s 5 0).2.2 ≠ 0 then ((tn s 5 0).2.2, ⟨#[]⟩, ⟨#[]⟩, ⟨#[]⟩) else if (tn s 5 0).1 > (last.size : Int) then (3, ⟨#[]⟩, ⟨#[]⟩, ⟨#[]⟩) else
  if (tt (tn s 5 0).2.1 256).2.2 ≠ 0 then ((tt (tn s 5 0).2.1 256).2.2, ⟨#[]⟩, ⟨#[]⟩, ⟨#[]⟩) else
  if bad last (last.extract 0 (tn s 5 0).1.toNat ++ (tt (tn s 5 0).2.1 256).1) first (tn s 5 0).1 = true then (16, ⟨#[]⟩, ⟨#[]⟩, ⟨#[]⟩) else
  if (tt (tt (tn s 5 0).2.1 256).2.1 4096).2.2 ≠ 0 then ((tt (tt (tn s 5 0).2.1 256).2.1 4096).2.2, ⟨#[]⟩, ⟨#[]⟩, ⟨#[]⟩) else
  (0, last.extract 0 (tn s 5 0).1.toNat ++ (tt (tn s 5 0).2.1 256).1, (tt (tt (tn s 5 0).2.1 256).2.1 4096).1, (tt (tt (tn s 5 0).2.1 256).2.1 4096).2.1)
theorem cut_one (t : Int × ByteArray × Int) (m : Int) : (cut t m).1.size + (cut t m).2.1.size ≤ t.2.1.size := by
  unfold cut
  split
  · split
    · exact empty_size _
    · split
      · exact empty_size _
      · simp; omega
  · exact empty_size _
theorem tt_one (s : ByteArray) (m : Int) : (tt s m).1.size + (tt s m).2.1.size ≤ s.size := Nat.le_trans (cut_one _ _) (tn_size s 5 0)
theorem ordE_f (k : Nat) (last key : ByteArray) (first : Bool) (n : Int) (hl : last.size < 9000000) (hk : last.size < k) : block_Unpack.ordE k last key first n = some (bad last key first n) := by
  unfold block_Unpack.ordE bad
  rw [shared_f last key hl k hk]
  cases first
  · rw [if_neg (by decide)]
    cases Op.bytesLess last.toList key.toList
    · rw [if_neg (by decide)]
      rfl
    · rw [if_pos rfl]
      rfl
  · rw [if_pos rfl]
    rfl
/-- an entry as block reads it -/
theorem entE_f (k : Nat) (s last : ByteArray) (first : Bool) (hs : s.size < 9000000) (hl : last.size < 9000000) (hk : last.size + 60 < k) : block_Unpack.entE k s last first = some (st s last first) := by
  have ha := tn_nonneg s 5 0
  have h1 := tn_size s 5 0
  have h2 := tt_one (tn s 5 0).2.1 256
  unfold block_Unpack.entE
  unfold st
  rw [takeNum_f k (by omega) s (by omega), Option.bind_some]
  by_cases c1 : (tn s 5 0).2.2 ≠ 0
  · rw [if_pos c1, if_pos c1]
  · rw [if_neg c1, if_neg c1]
    by_cases c2 : (tn s 5 0).1 > (last.size : Int)
    · rw [if_pos c2, if_pos c2]
    · rw [if_neg c2, if_neg c2, if_pos ha, takeText_f k (by omega) _ (by omega), Option.bind_some]
      by_cases c3 : (tt (tn s 5 0).2.1 256).2.2 ≠ 0
      · rw [if_pos c3, if_pos c3]
      · rw [if_neg c3, if_neg c3, if_pos (by rw [ByteArray.size_extract]; omega), ordE_f k _ _ _ _ hl (by omega), Option.bind_some]
        by_cases c4 : bad last (last.extract 0 (tn s 5 0).1.toNat ++ (tt (tn s 5 0).2.1 256).1) first (tn s 5 0).1 = true
        · rw [if_pos c4, if_pos c4]
        · rw [if_neg c4, if_neg c4, takeText_f k (by omega) _ (by omega), Option.bind_some]
          by_cases c5 : (tt (tt (tn s 5 0).2.1 256).2.1 4096).2.2 ≠ 0
          · rw [if_pos c5, if_pos c5]
          · rw [if_neg c5, if_neg c5]
theorem tn_less (s : ByteArray) : ∀ d i, (tn s d i).2.2 = 0 → (tn s d i).2.1.size + 1 ≤ s.size
  | 0, i => by simp [tn]
  | d + 1, i => by
    rw [tn]
    split
    · simp
    · split
      · unfold fin
        split
        · simp
        · split
          · simp
          · intro _
            simp only [ByteArray.size_extract]
            omega
      · exact tn_less s d (i + 1)
theorem tn_le (s : ByteArray) : ∀ d i, (tn s d i).1 ≤ 2147483647
  | 0, i => by simp [tn]
  | d + 1, i => by
    rw [tn]
    split
    · simp
    · split
      · unfold fin
        split
        · simp
        · split
          · simp
          · simp only
            omega
      · exact tn_le s d (i + 1)
theorem st_size (s last : ByteArray) (first : Bool) (h : (st s last first).1 = 0) : (st s last first).2.1.size + (st s last first).2.2.2.size ≤ last.size + s.size ∧ (st s last first).2.2.2.size + 1 ≤ s.size := by
  have ha := tn_nonneg s 5 0
  have h0 := tn_less s 5 0
  have h2 := tt_one (tn s 5 0).2.1 256
  have h3 := tt_one (tt (tn s 5 0).2.1 256).2.1 4096
  unfold st at h ⊢
  by_cases c1 : (tn s 5 0).2.2 ≠ 0
  · rw [if_pos c1] at h
    exact absurd h c1
  · have h0 := h0 (Decidable.not_not.1 c1)
    rw [if_neg c1] at h ⊢
    by_cases c2 : (tn s 5 0).1 > (last.size : Int)
    · rw [if_pos c2] at h
      exact absurd h (by decide)
    · rw [if_neg c2] at h ⊢
      by_cases c3 : (tt (tn s 5 0).2.1 256).2.2 ≠ 0
      · rw [if_pos c3] at h
        exact absurd h c3
      · rw [if_neg c3] at h ⊢
        by_cases c4 : bad last (last.extract 0 (tn s 5 0).1.toNat ++ (tt (tn s 5 0).2.1 256).1) first (tn s 5 0).1 = true
        · rw [if_pos c4] at h
          exact absurd h (by decide)
        · rw [if_neg c4] at h ⊢
          by_cases c5 : (tt (tt (tn s 5 0).2.1 256).2.1 4096).2.2 ≠ 0
          · rw [if_pos c5] at h
            exact absurd h c5
          · rw [if_neg c5]
            simp only [ByteArray.size_append, ByteArray.size_extract]
            omega
/-- the loop, for both -/
def un : Nat → Bool → ByteArray → ByteArray → List S25 → Int × List S25 × ByteArray
  | 0, _, rest, _, acc => (0, acc, rest)
  | m + 1, first, rest, last, acc => if (st rest last first).1 = 0 then un m false (st rest last first).2.2.2 (st rest last first).2.1 (acc ++ [⟨(st rest last first).2.1, (st rest last first).2.2.1⟩]) else ((st rest last first).1, [], rest)
theorem go_f (k : Nat) : ∀ (m : Nat) (first : Bool) (rest last : ByteArray) (acc : List S25), last.size + rest.size + 60 < k → last.size + rest.size < 4000000 → acc.length + rest.size < 1000000 → block_Unpack.goE k m first rest last acc = some (un m first rest last acc)
  | 0, _, _, _, _, _, _, _ => rfl
  | m + 1, first, rest, last, acc, hk, hs, hl => by
    rw [block_Unpack.goE, un, entE_f k rest last first (by omega) (by omega) (by omega), Option.bind_some]
    by_cases c : (st rest last first).1 = 0
    · have h := st_size rest last first c
      rw [if_pos c, if_pos c, if_pos (by omega), go_f k m false _ _ _ (by omega) (by omega) (by rw [List.length_append, List.length_singleton]; omega)]
    · rw [if_neg c, if_neg c]
theorem unpack_f (k : Nat) (s : ByteArray) (hs : s.size < 900000) (hk : s.size + 60 < k) : block_Unpack.f k s = some (if (tn s 5 0).2.2 ≠ 0 then ([], (tn s 5 0).2.2) else block_Unpack.fin (un (tn s 5 0).1.toNat true (tn s 5 0).2.1 ⟨#[]⟩ [])) := by
  have h := tn_size s 5 0
  have e0 : (⟨#[]⟩ : ByteArray).size = 0 := rfl
  unfold block_Unpack.f
  rw [takeNum_f k (by omega) s (by omega), Option.bind_some]
  by_cases c : (tn s 5 0).2.2 ≠ 0
  · rw [if_pos c, if_pos c]
  · rw [if_neg c, if_neg c, go_f k _ _ _ _ _ (by omega) (by omega) (by rw [List.length_nil]; omega), Option.bind_some]
theorem ref_loop (many : Int) (hm : many ≤ 2147483647) : ∀ (m i k : Nat) (rest last : ByteArray) (out : List S25), (i : Int) + (m : Int) = many → last.size + rest.size < 4000000 → out.length + rest.size < 1000000 → 2 * rest.size + 2 * (last.size + rest.size) + 100 < k →
    catchmentref10_Unpack.l0 k rest [] many out last (i : Int) = some (block_Unpack.fin (un m (i == 0) rest last out))
  | m, i, 0, _, _, _, _, _, _, h => absurd h (by omega)
  | m, i, 1, _, _, _, _, _, _, h => absurd h (by omega)
  | 0, i, k + 2, rest, last, out, hi, hs, hl, hk => by
    rw [catchmentref10_Unpack.l0, if_neg (by omega), un]
    simp only [block_Unpack.fin, ne_eq, not_true_eq_false, if_false]
    split <;> rfl
  | m + 1, i, k + 2, rest, last, out, hi, hs, hl, hk => by
    have ha := tn_nonneg rest 5 0
    have hz := st_size rest last (i == 0)
    have h1 := tn_size rest 5 0
    have h2 := tt_one (tn rest 5 0).2.1 256
    rw [catchmentref10_Unpack.l0, if_pos (by omega), un, refTakeNum_f (k + 1) (by omega) rest (by omega), Option.bind_some]
    unfold st at hz ⊢
    by_cases c1 : (tn rest 5 0).2.2 = 0
    · rw [if_pos c1]
      simp only [if_neg (show ¬ ((tn rest 5 0).2.2 ≠ 0) from fun h => h c1)] at hz ⊢
      by_cases c2 : (tn rest 5 0).1 > (last.size : Int)
      · rw [if_pos c2]
        simp [if_pos c2, block_Unpack.fin]
      · rw [if_neg c2, refTakeText_f (k + 1) (by omega) _ (by omega), Option.bind_some]
        simp only [if_neg c2] at hz ⊢
        by_cases c3 : (tt (tn rest 5 0).2.1 256).2.2 = 0
        · rw [if_pos c3, if_pos ha, if_pos (by omega), if_pos (by rw [ByteArray.size_extract]; omega)]
          simp only [if_neg (show ¬ ((tt (tn rest 5 0).2.1 256).2.2 ≠ 0) from fun h => h c3)] at hz ⊢
          have hsh := sh_ge last (tt (tn rest 5 0).2.1 256).1 (tn rest 5 0).1.toNat (by omega)
          rw [refShared_f last _ (by omega) (k + 1) (by omega)]
          have J : ∀ x : Bool, (if (i : Int) > 0 then (if ((Op.bytesLess last.toList (((last.extract 0 ((tn rest 5 0).1 : Int).toNat) ++ (tt (tn rest 5 0).2.1 256).1).toList)) = true) then ((some ((sh last ((last.extract 0 ((tn rest 5 0).1 : Int).toNat) ++ (tt (tn rest 5 0).2.1 256).1) : Nat) : Int)).bind fun t181 => (catchmentref10_Unpack.j1 (k + 1) [] many out (i : Int) (tt (tn rest 5 0).2.1 256).2.1 ((last.extract 0 ((tn rest 5 0).1 : Int).toNat) ++ (tt (tn rest 5 0).2.1 256).1) (decide (t181 > (tn rest 5 0).1)))) else (catchmentref10_Unpack.j1 (k + 1) [] many out (i : Int) (tt (tn rest 5 0).2.1 256).2.1 ((last.extract 0 ((tn rest 5 0).1 : Int).toNat) ++ (tt (tn rest 5 0).2.1 256).1) true)) else ((some ((sh last ((last.extract 0 ((tn rest 5 0).1 : Int).toNat) ++ (tt (tn rest 5 0).2.1 256).1) : Nat) : Int)).bind fun t182 => (catchmentref10_Unpack.j1 (k + 1) [] many out (i : Int) (tt (tn rest 5 0).2.1 256).2.1 ((last.extract 0 ((tn rest 5 0).1 : Int).toNat) ++ (tt (tn rest 5 0).2.1 256).1) (decide (t182 > (tn rest 5 0).1)))))
              = catchmentref10_Unpack.j1 (k + 1) [] many out (i : Int) (tt (tn rest 5 0).2.1 256).2.1 ((last.extract 0 ((tn rest 5 0).1 : Int).toNat) ++ (tt (tn rest 5 0).2.1 256).1) (bad last (last.extract 0 (tn rest 5 0).1.toNat ++ (tt (tn rest 5 0).2.1 256).1) (i == 0) (tn rest 5 0).1) := fun _ => by
            generalize (last.extract 0 (tn rest 5 0).1.toNat ++ (tt (tn rest 5 0).2.1 256).1) = key at hsh ⊢
            have e : decide (((sh last key : Nat) : Int) > (tn rest 5 0).1) = (((sh last key : Nat) : Int) != (tn rest 5 0).1) := by
              rw [Bool.eq_iff_iff]; simp; omega
            unfold bad
            by_cases h0 : i = 0
            · subst h0
              rw [if_neg (by decide), Option.bind_some, e]
              rfl
            · rw [if_pos (by omega), show (i == 0) = false from by simpa using h0]
              by_cases hb : Op.bytesLess last.toList key.toList = true
              · rw [if_pos hb, Option.bind_some, e, hb]
                rfl
              · rw [if_neg hb, show Op.bytesLess last.toList key.toList = false from by simpa using hb]
                rfl
          rw [J true, catchmentref10_Unpack.j1]
          by_cases c4 : bad last (last.extract 0 (tn rest 5 0).1.toNat ++ (tt (tn rest 5 0).2.1 256).1) (i == 0) (tn rest 5 0).1 = true
          · rw [if_pos c4]
            simp [if_pos c4, block_Unpack.fin]
          · rw [if_neg c4, refTakeText_f k (by omega) _ (by omega), Option.bind_some]
            simp only [if_neg c4] at hz ⊢
            by_cases c5 : (tt (tt (tn rest 5 0).2.1 256).2.1 4096).2.2 = 0
            · rw [if_pos c5, if_pos (by omega), wrap64_id (by omega) (by omega)]
              simp only [if_neg (show ¬ ((tt (tt (tn rest 5 0).2.1 256).2.1 4096).2.2 ≠ 0) from fun h => h c5), if_true] at hz ⊢
              have hz := hz trivial
              have r := ref_loop many hm m (i + 1) k (tt (tt (tn rest 5 0).2.1 256).2.1 4096).2.1 (last.extract 0 (tn rest 5 0).1.toNat ++ (tt (tn rest 5 0).2.1 256).1) (out ++ [(⟨last.extract 0 (tn rest 5 0).1.toNat ++ (tt (tn rest 5 0).2.1 256).1, (tt (tt (tn rest 5 0).2.1 256).2.1 4096).1⟩ : S25)]) (by omega) (by omega) (by rw [List.length_append, List.length_singleton]; omega) (by omega)
              rw [show (i + 1 == 0) = false from by simp] at r
              rw [show (i : Int) + 1 = ((i + 1 : Nat) : Int) from by omega, r]
            · rw [if_neg c5]
              clear hz J
              rw [if_pos (show (tt (tt (tn rest 5 0).2.1 256).2.1 4096).2.2 ≠ 0 from c5)]
              rw [if_neg (show ¬ (((tt (tt (tn rest 5 0).2.1 256).2.1 4096).2.2, (⟨#[]⟩ : ByteArray), (⟨#[]⟩ : ByteArray), (⟨#[]⟩ : ByteArray)).1 = 0) from c5)]
              unfold block_Unpack.fin
              rw [if_pos (show (((tt (tt (tn rest 5 0).2.1 256).2.1 4096).2.2, ([] : List S25), rest).1 ≠ 0) from c5)]
        · rw [if_neg c3]
          simp [if_pos c3, block_Unpack.fin, c3]
    · rw [if_neg c1]
      simp [if_pos c1, block_Unpack.fin, c1]
theorem refUnpack_f (k : Nat) (s : ByteArray) (hs : s.size < 900000) (hk : 4 * s.size + 200 < k) : catchmentref10_Unpack.f k s = some (if (tn s 5 0).2.2 ≠ 0 then ([], (tn s 5 0).2.2) else block_Unpack.fin (un (tn s 5 0).1.toNat true (tn s 5 0).2.1 ⟨#[]⟩ [])) := by
  have h := tn_size s 5 0
  have h0 := tn_nonneg s 5 0
  have e0 : (⟨#[]⟩ : ByteArray).size = 0 := rfl
  unfold catchmentref10_Unpack.f
  rw [Option.bind_some, refTakeNum_f k (by omega) s (by omega), Option.bind_some]
  by_cases c : (tn s 5 0).2.2 = 0
  · rw [if_pos c, if_neg (show ¬ ((tn s 5 0).2.2 ≠ 0) from fun h => h c)]
    exact ref_loop (tn s 5 0).1 (tn_le s 5 0) (tn s 5 0).1.toNat 0 k _ _ _ (by omega) (by omega) (by rw [List.length_nil]; omega) (by omega)
  · rw [if_neg c, if_pos c]
end Go.Proofs.Ytnklnjghecmihaa.UnpSpec
