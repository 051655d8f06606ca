/- For every word and every number the law VlockPacks answers true: no condition beyond what a Go value of these types can be. -/
import Derived.Test.YtdlhiadekgnieaaQ1x65
import Derived.Test.YtdlhiadekgnieaaVlockStep
import Derived.Laws.BitsLemmas
set_option linter.unusedVariables false
set_option linter.unusedSimpArgs false
namespace Go.Proofs.Ytdlhiadekgnieaa.Pure
open Go.RowKit Go.Proofs.Ytdlhiadekgnieaa.Q1 Go.Proofs.Ytdlhiadekgnieaa.VlockSpec Go.Proofs.YtdlhiadekgnieaaW.PrintWords Go.Proofs.YtdlhiadekgnieaaW.PrintLast Go.Proofs.YtdlhiadekgnieaaW.Ord
theorem wraps_u64 (n : Int) (h₀ : 0 ≤ n) (h₁ : n < 2 ^ 64) : IntKind.u64.wrap n = n := by
  simp [IntKind.wrap, IntKind.signed, IntKind.bits]
  omega
theorem wrap_u64 {n : Int} (h₀ : 0 ≤ n) (h₁ : n ≤ 18446744073709551615) : IntKind.u64.wrap n = n := wraps_u64 n h₀ (by omega)
theorem or_join (i : Nat) {x y : Int} (hx₀ : 0 ≤ x) (hx : x % 2 ^ i = 0) (hx₁ : x < 2 ^ 64) (hy₀ : 0 ≤ y) (hy : y < 2 ^ i) (hy₁ : y < 2 ^ 64) : Go.bits .or .u64 x y = x + y :=
  bits_join .u64 64 (by decide) wraps_u64 i x y hx₀ hx hx₁ hy₀ hy hy₁
theorem and_127 {x : Int} (h₀ : 0 ≤ x) (h₁ : x < 2 ^ 64) : Go.bits .and .u64 x 127 = x % 128 := bits_mask .u64 64 (by decide) wraps_u64 7 (by decide) x h₀ h₁
theorem and_128 {x : Int} (h₀ : 0 ≤ x) (h₁ : x < 2 ^ 64) : (Go.bits .and .u64 x 128 != 0) = (x / 128 % 2 == 1) := by
  obtain ⟨a, rfl⟩ := Int.eq_ofNat_of_zero_le h₀
  have ha : a < 2 ^ 64 := by exact_mod_cast h₁
  have e := (bits_nat .u64 64 (by decide) wraps_u64 a 128 ha (by decide)).1
  have e2 : Go.bits .and .u64 (a : Int) 128 = ((a &&& 128 : Nat) : Int) := e
  rw [e2]
  have e3 : a &&& 128 = a / 128 % 2 * 128 := by
    apply Nat.eq_of_testBit_eq
    intro i
    have h7 : a.testBit 7 = decide (a / 128 % 2 = 1) := Nat.testBit_eq_decide_div_mod_eq
    rw [Nat.testBit_and, show (128 : Nat) = 2 ^ 7 from rfl, Nat.testBit_two_pow]
    rcases Nat.mod_two_eq_zero_or_one (a / 2 ^ 7) with h | h
    · rw [h, Nat.zero_mul, Nat.zero_testBit]
      by_cases hi : 7 = i
      · subst hi
        rw [h7]
        have h' : a / 128 % 2 = 0 := h
        rw [h']
        rfl
      · rw [decide_eq_false hi, Bool.and_false]
    · rw [h, Nat.one_mul, Nat.testBit_two_pow]
      by_cases hi : 7 = i
      · subst hi
        rw [h7]
        have h' : a / 128 % 2 = 1 := h
        rw [h']
        rfl
      · rw [decide_eq_false hi, Bool.and_false]
  rw [e3]
  rcases Nat.mod_two_eq_zero_or_one (a / 128) with h | h
  · rw [h]
    have : ((a : Int) / 128 % 2 == 1) = false := by rw [beq_eq_false_iff_ne]; omega
    rw [this]; rfl
  · rw [h]
    have : ((a : Int) / 128 % 2 == 1) = true := by rw [beq_iff_eq]; omega
    rw [this]; rfl
instance (v o : Int) (g : Bool) : Decidable (Rt v o g) := by unfold Rt; exact inferInstance
/-- a word as a number -/
def pak (v o : Int) (g : Bool) : Int × Int := if Rt v o g then (v * 256 + o + (if g = true then 128 else 0), 0) else (0, 2)
theorem right_no {v o : Int} {g : Bool} (h : ¬ Rt v o g) : vlock_Right.f v o g = some false := by
  unfold vlock_Right.f
  unfold Rt at h
  by_cases h1 : v ≥ 0
  · rw [if_pos h1]
    by_cases h2 : v ≤ 1099511627776
    · rw [if_pos h2]
      by_cases h3 : o ≥ 0
      · rw [if_pos h3]
        by_cases h4 : o ≤ 64
        · rw [if_pos h4]
          cases g
          · exact absurd ⟨h1, h2, h3, h4, fun h => by cases h⟩ h
          · rw [if_pos rfl]
            have : (o == 0) = false := by
              rw [beq_eq_false_iff_ne]
              exact fun e => h ⟨h1, h2, h3, h4, fun _ => e⟩
            rw [this]
        · rw [if_neg h4]
      · rw [if_neg h3]
    · rw [if_neg h2]
  · rw [if_neg h1]
theorem refRight_f (v o : Int) (g : Bool) : catchmentref07_Right.f v o g = vlock_Right.f v o g := by
  unfold catchmentref07_Right.f vlock_Right.f
  have e1 : (v ≥ 0) = ¬ (v < 0) := by simp
  have e2 : (v ≤ 1099511627776) = ¬ (v > 1099511627776) := by simp
  have e3 : (o ≥ 0) = ¬ (o < 0) := by simp
  have e4 : (o ≤ 64) = ¬ (o > 64) := by simp
  simp only [e1, e2, e3, e4]
  by_cases h1 : v < 0
  · rw [if_pos h1, if_neg (fun h => h h1)]
  · by_cases h2 : v > 1099511627776
    · rw [if_neg h1, if_pos h2, if_pos h1, if_neg (fun h => h h2)]
    · by_cases h3 : o < 0
      · rw [if_neg h1, if_neg h2, if_pos h3, if_pos h1, if_pos h2, if_neg (fun h => h h3)]
      · by_cases h4 : o > 64
        · rw [if_neg h1, if_neg h2, if_neg h3, if_pos h4, if_pos h1, if_pos h2, if_pos h3, if_neg (fun h => h h4)]
        · rw [if_neg h1, if_neg h2, if_neg h3, if_neg h4, if_pos h1, if_pos h2, if_pos h3, if_pos h4]
          cases g
          · rfl
          · rw [if_pos rfl, if_pos rfl]
            by_cases h5 : o = 0
            · subst h5; rfl
            · have h6 : decide (o > 0) = true := decide_eq_true (by omega)
              rw [h6, beq_eq_false_iff_ne.mpr h5]; rfl
theorem pack_f (v o : Int) (g : Bool) : vlock_Pack.f v o g = some (pak v o g) := by
  unfold vlock_Pack.f pak
  by_cases h : Rt v o g
  · rw [right_f h, if_pos h]
    obtain ⟨h1, h2, h3, h4, h5⟩ := h
    simp only [Option.bind_some, if_true]
    have e1 : IntKind.u64.wrap v = v := wrap_u64 h1 (by omega)
    have e2 : IntKind.u64.wrap o = o := wrap_u64 h3 (by omega)
    have e3 : IntKind.u64.wrap (v * 256) = v * 256 := wrap_u64 (by omega) (by omega)
    have e4 : Go.bits .or .u64 (v * 256) o = v * 256 + o := or_join 8 (by omega) (by omega) (by omega) h3 (by omega) (by omega)
    rw [e1, e2, e3, e4]
    cases g
    · simp
    · have e5 := h5 rfl
      subst e5
      have e6 : Go.bits .or .u64 (v * 256 + 0) 128 = v * 256 + 0 + 128 := or_join 8 (by omega) (by omega) (by omega) (by omega) (by omega) (by omega)
      rw [if_pos rfl, e6]; rfl
  · rw [right_no h, if_neg h]
    rfl
theorem refPack_f (v o : Int) (g : Bool) : catchmentref07_Pack.f v o g = some (pak v o g) := by
  unfold catchmentref07_Pack.f pak
  rw [refRight_f]
  by_cases h : Rt v o g
  · rw [right_f h, if_pos h]
    obtain ⟨h1, h2, h3, h4, h5⟩ := h
    simp only [Option.bind_some, if_true]
    have e1 : IntKind.u64.wrap v = v := wrap_u64 h1 (by omega)
    have e2 : IntKind.u64.wrap o = o := wrap_u64 h3 (by omega)
    have e3 : IntKind.u64.wrap (v * 256) = v * 256 := wrap_u64 (by omega) (by omega)
    have e4 : IntKind.u64.wrap (v * 256 + o) = v * 256 + o := wrap_u64 (by omega) (by omega)
    rw [e1, e2, e3, e4]
    cases g
    · simp
    · have e6 : IntKind.u64.wrap (v * 256 + o + 128) = v * 256 + o + 128 := wrap_u64 (by omega) (by omega)
      rw [if_pos rfl, e6]; rfl
  · rw [right_no h, if_neg h]
    rfl
/-- the word that a number is -/
def unp (w : Int) : Int × Int × Bool × Int :=
  if w / 256 ≤ 1099511627776 ∧ w % 128 ≤ 64 ∧ (w / 128 % 2 = 1 → w % 128 = 0) then (w / 256, w % 128, w / 128 % 2 == 1, 0) else (0, 0, false, 3)
theorem unpack_f {w : Int} (h0 : 0 ≤ w) (h1 : w ≤ 18446744073709551615) : vlock_Unpack.f w = some (unp w) := by
  unfold vlock_Unpack.f unp
  rw [and_127 h0 (by omega), and_128 h0 (by omega)]
  have e1 : wrap64 (w / 256) = w / 256 := by unfold wrap64; omega
  have e2 : wrap64 (w % 128) = w % 128 := by unfold wrap64; omega
  rw [e1, e2]
  by_cases c1 : w / 256 > 1099511627776
  · rw [if_pos c1, if_neg (by omega)]
  · rw [if_neg c1]
    by_cases h : Rt (w / 256) (w % 128) (w / 128 % 2 == 1)
    · rw [right_f h]
      obtain ⟨_, _, _, h4, h5⟩ := h
      rw [if_pos ⟨by omega, h4, fun h => h5 (beq_iff_eq.mpr h)⟩]
      simp
    · rw [right_no h, if_neg (fun h' => h ⟨by omega, by omega, by omega, h'.2.1, fun e => h'.2.2 (beq_iff_eq.mp e)⟩)]
      simp
theorem refUnpack_f {w : Int} (h0 : 0 ≤ w) (h1 : w ≤ 18446744073709551615) : catchmentref07_Unpack.f w = some (unp w) := by
  unfold catchmentref07_Unpack.f unp
  rw [if_pos ⟨h0, h1⟩]
  by_cases c1 : w / 256 > 1099511627776
  · rw [if_pos c1, if_neg (by omega)]
  · rw [if_neg c1]
    by_cases c2 : w % 128 > 64
    · rw [if_pos c2, if_neg (by omega)]
    · rw [if_neg c2]
      by_cases c3 : w / 128 % 2 = 1
      · rw [if_pos c3]
        by_cases c4 : w % 128 > 0
        · rw [if_pos c4, if_neg (fun h => by have := h.2.2 c3; omega)]
        · rw [if_neg c4, if_pos ⟨by omega, by omega, fun _ => by omega⟩, c3]; rfl
      · rw [if_neg c3, if_pos ⟨by omega, by omega, fun h => absurd h c3⟩, beq_eq_false_iff_ne.mpr c3]
theorem unp_pak {v o : Int} {g : Bool} (h : Rt v o g) : unp (v * 256 + o + (if g = true then 128 else 0)) = (v, o, g, 0) := by
  obtain ⟨h1, h2, h3, h4, h5⟩ := h
  unfold unp
  cases g
  · simp only [Bool.false_eq_true, if_false, Int.add_zero]
    have e1 : (v * 256 + o) / 256 = v := by omega
    have e2 : (v * 256 + o) % 128 = o := by omega
    have e3 : (v * 256 + o) / 128 % 2 = 0 := by omega
    rw [e1, e2, e3, if_pos ⟨h2, h4, fun h => absurd h (by decide)⟩]; rfl
  · have e5 := h5 rfl
    subst e5
    simp only [if_true, Int.add_zero]
    have e1 : (v * 256 + 128) / 256 = v := by omega
    have e2 : (v * 256 + 128) % 128 = 0 := by omega
    have e3 : (v * 256 + 128) / 128 % 2 = 1 := by omega
    rw [e1, e2, e3, if_pos ⟨h2, by decide, fun _ => rfl⟩]; rfl
theorem pak_unp {w : Int} (h0 : 0 ≤ w) (h : (unp w).2.2.2 = 0) : pak (unp w).1 (unp w).2.1 (unp w).2.2.1 = (w, 0) := by
  unfold unp at h ⊢
  by_cases c : w / 256 ≤ 1099511627776 ∧ w % 128 ≤ 64 ∧ (w / 128 % 2 = 1 → w % 128 = 0)
  · rw [if_pos c]
    simp only
    unfold pak
    rw [if_pos ⟨by omega, c.1, by omega, c.2.1, fun e => c.2.2 (beq_iff_eq.mp e)⟩]
    by_cases c3 : w / 128 % 2 = 1
    · have := c.2.2 c3
      rw [c3]
      simp
      omega
    · rw [beq_eq_false_iff_ne.mpr c3]
      simp
      omega
  · rw [if_neg c] at h
    exact absurd h (by decide)
theorem VlockPacks : catchmentlaw07_VlockPacks.Pure := by
  intro y0 a1 h0 h1
  obtain ⟨v, o, g⟩ := y0
  have ha : 0 ≤ a1 ∧ a1 ≤ 18446744073709551615 := by simpa [Lit.wf, IntKind.min, IntKind.max, IntKind.signed, IntKind.bits] using h1
  obtain ⟨K, hK⟩ : ∃ K : Nat, 10 ≤ K := ⟨10, Nat.le_refl _⟩
  refine ⟨K + 1, ?_⟩
  have hl := live_ge hK
  have hp0 : 0 ≤ (pak v o g).1 ∧ (pak v o g).1 ≤ 18446744073709551615 := by
    unfold pak
    split
    · rename_i h
      obtain ⟨h1, h2, h3, h4, h5⟩ := h
      simp only
      split <;> omega
    · exact ⟨by decide, by decide⟩
  simp only [catchmentlaw07_VlockPacks.f, pack_f, refPack_f, unpack_f ha.1 ha.2, refUnpack_f ha.1 ha.2, Option.bind_some, catchmentlaw07_VlockPacks.j0, hl, unpack_f hp0.1 hp0.2]
  simp only [beq_self_eq_true, Bool.not_true, Bool.or_self, Bool.false_eq_true, if_false, if_true, bne_self_eq_false]
  have hf : (pak v o g).2 = 0 → (unp (pak v o g).1).2.2.2 = 0 ∧ ((unp (pak v o g).1).1 == v && ((unp (pak v o g).1).2.1 == o && ((unp (pak v o g).1).2.2.1 == g))) = true := by
    intro h
    unfold pak at h ⊢
    by_cases c : Rt v o g
    · rw [if_pos c]
      simp only
      rw [unp_pak c]
      simp
    · rw [if_neg c] at h
      exact absurd h (by decide)
  have hb : (unp a1).2.2.2 = 0 → (pak (unp a1).1 (unp a1).2.1 (unp a1).2.2.1).2 = 0 ∧ ((pak (unp a1).1 (unp a1).2.1 (unp a1).2.2.1).1 == a1) = true := by
    intro h
    rw [pak_unp ha.1 h]
    exact ⟨rfl, beq_self_eq_true _⟩
  by_cases c1 : (pak v o g).2 = 0
  · rw [if_pos c1, if_pos (hf c1).1, if_pos (hf c1).2]
    by_cases c2 : (unp a1).2.2.2 = 0
    · rw [if_pos c2, if_pos (hb c2).1, (hb c2).2]
    · rw [if_neg c2]
  · rw [if_neg c1]
    by_cases c2 : (unp a1).2.2.2 = 0
    · rw [if_pos c2, if_pos (hb c2).1, (hb c2).2]
    · rw [if_neg c2]
end Go.Proofs.Ytdlhiadekgnieaa.Pure
