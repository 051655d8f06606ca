-- written by a program of this session (wip/myprint.py), over the kit's printer and the session's own contracts
import Derived.Test.YtnklnjghecmihaaH3x0
import Derived.Test.YtnklnjghecmihaaH3x15
import Derived.Test.YtnklnjghecmihaaH3x17
import Derived.Test.YtnklnjghecmihaaH3x18
namespace Go.Proofs.Ytnklnjghecmihaa.H3
open Go.RowKit Go.Proofs.YtnklnjghecmihaaW.PrintWords Go.Proofs.YtnklnjghecmihaaW.PrintLast Go.Proofs.YtnklnjghecmihaaW.PrintMore Go.Proofs.YtnklnjghecmihaaW.Mine
attribute [local go_sem] max2_int min2_int max_two min_two max_three min_three max_four min_four max2_str min2_str binOp_gtr_str binOp_leq_str binOp_geq_str   -- for this text's walks alone
set_option linter.unusedVariables false
set_option linter.unusedSimpArgs false

/-! ### word_Texts: function 83 -/
/-- the texts' bytes, one behind the other -/
def word_Texts.go (k : Nat) : List ByteArray → ByteArray → Option ByteArray
  | [], acc => some acc
  | s :: r, acc => (word_Text.f k s).bind fun t => if acc.size + t.size ≤ 140737488355328 then word_Texts.go k r (acc ++ t) else none
def word_Texts.f (k : Nat) (l0 : List ByteArray) : Option ByteArray := word_Texts.go k l0 ⟨#[]⟩
theorem word_Texts.mono : ∀ l0 k, LeO (word_Texts.f k l0) (word_Texts.f (k + 1) l0) := by
  intro l0 k
  unfold word_Texts.f
  generalize (⟨#[]⟩ : ByteArray) = acc
  induction l0 generalizing acc with
  | nil => exact LeO.refl _
  | cons s r ih =>
    simp only [word_Texts.go]
    refine LeO.bind (word_Text.mono _ _) (fun t => LeO.ite (ih _) (LeO.none _))
theorem word_Texts.still {T e B b : Nat} {bs : List Value} {w w1 : World} (h : Lib.IsBuilder T e B b bs w) (hb : Below w.heap.size w w1) : Lib.IsBuilder T e B b bs w1 := by
  have one : ∀ p, Lib.BuilderAt T e B b p bs w → Lib.BuilderAt T e B b p bs w1 := by
    rintro p h
    have hl := h.lt
    obtain ⟨h1, v, h2, h3, h4⟩ := h
    exact ⟨h1, v, (hb.block b hl).trans h2, own_move h3 (fun k hk => hb.block k (own_lt h3 k hk)), h4⟩
  exact h.imp (one _) (one _)
theorem word_Texts.bytes (acc t : ByteArray) : Lib.byteCells acc.data.toList ++ Lib.strCells t = Lib.byteCells (acc ++ t).data.toList := by
  simp [Lib.byteCells, Lib.strCells]
theorem word_Texts.next (l0 : List ByteArray) (j : Nat) (hlt : (j : Int) < (l0.length : Int)) : l0.drop j = rdOf ByteArray.empty l0 (j : Int) :: l0.drop (j + 1) := by
  have h : j < l0.length := by omega
  rw [List.drop_eq_getElem_cons h]
  unfold rdOf
  simp [h]
set_option maxHeartbeats 4000000 in
set_option maxRecDepth 100000 in
theorem word_Texts.calls (k : Nat) (A0 : Option Addr) (c0 : Nat) (l0 : List ByteArray) (r : ByteArray) (w : World) (hr0 : Kd.C Kd.string w A0 l0.length l0) (hc0 : l0.length ≤ c0) (h : word_Texts.f k l0 = some r) :
    Calls Try.prog 83 #[.slice A0 l0.length c0] w fun e w' => e = .returned (.string r) ∧ Below w.heap.size w w' := by
  have hlen : l0.length ≤ 9223372036854775807 := hr0.2.1
  have HR := Aside0.mk hr0
  have H0 := Aside0.mk h
  have H1 := Aside0.mk (Lib.fresh_isBuilder 116 5 w)
  have H2 := Aside0.mk ((Below.refl w.heap.size w).alloc (Nat.le_refl _) (.cells #[.pointer none, .slice none 0 0] 116))
  clear hr0 h
  go_enter Try.func83, Try.ntmps83
  go_wp2
  go_loopw [8] (fun i wr => ∃ (j : Nat) (acc : ByteArray), i = .int .i64 (j : Int) ∧ j ≤ l0.length ∧ Aside0 (word_Texts.go k (l0.drop j) acc = some r) ∧ Aside0 (Lib.IsBuilder 116 5 w.heap.size w.heap.size (Lib.byteCells acc.data.toList) wr) ∧ Aside0 (Below w.heap.size w wr)) (fun i _ => l0.length - (intOf i).toNat)
  case atStart => exact ⟨0, ⟨#[]⟩, rfl, Nat.zero_le _, H0, H1, H2⟩
  case round =>
    clear H0 H1 H2
    obtain ⟨j, acc, rfl, hj, HA, HI, HB⟩ := hrel
    have hsz := HB.out.size
    by_cases hlt : (j : Int) < (l0.length : Int)
    · obtain ⟨ad, e, hx⟩ := Kd.at_string HR.out (j : Int) (Int.natCast_nonneg j) hlt
      cases e
      replace hx := (HB.out.cell (World.block_lt_of_cell? w _ hx)).trans hx
      rw [Int.toNat_natCast] at hx
      have hgo := HA.out
      clear HA
      rw [word_Texts.next l0 j hlt] at hgo
      obtain ⟨s, hs⟩ : ∃ s, rdOf ByteArray.empty l0 (j : Int) = s := ⟨_, rfl⟩
      rw [hs] at hx hgo
      clear hs
      simp only [word_Texts.go] at hgo
      obtain ⟨t, ht, hgo⟩ := Option.bind_eq_some_iff.1 hgo
      by_cases hb : acc.size + t.size ≤ 140737488355328
      · rw [if_pos hb] at hgo
        have HT := Aside0.mk ht
        have HG := Aside0.mk hgo
        have HL := Aside0.mk hb
        clear ht hgo hb
        have c0 : (decide ((j : Int) < (l0.length : Int))) = true := decide_eq_true hlt
        have c1 : (0 ≤ (j : Int)) = True := eq_true (Int.natCast_nonneg j)
        have c2 : ((j : Int) < (l0.length : Int)) = True := eq_true hlt
        have HJ := Aside0.mk hlt
        clear hlt
        go_wp2_with (go_at_call 127; refine (word_Text.calls k s t _ HT.out).mono ?_)
        rintro e w1 ⟨rfl, hb1⟩
        have HI1 := Aside0.mk (word_Texts.still HI.out hb1)
        have HB1 := Aside0.mk (HB.out.trans (hb1.mono (HB.out.size)))
        have hw1 := hb1.size
        clear HI hb1
        go_wp2_with (go_at_call 80; refine (strings_Builder_WriteString_c w.heap.size w.heap.size _ t _ HI1.out (by have := HL.out; simpa [Lib.byteCells] using this) (by omega)).mono ?_)
        rintro e w2 ⟨rfl, hI2, hb2⟩
        have HI2 := Aside0.mk hI2
        have HB2 := Aside0.mk (HB1.out.trans hb2)
        clear hI2 hb2 HI1 HB1 HB
        go_wp2
        go_roundw
        case rel => exact ⟨j + 1, acc ++ t, by have := HJ.out; rw [show wrap64 ((j : Int) + 1) = ((j + 1 : Nat) : Int) by unfold wrap64; omega], by have := HJ.out; omega, HG, ⟨.inr (by rw [← word_Texts.bytes]; exact HI2.out)⟩, HB2⟩
        case measure => have := HJ.out; rw [show wrap64 ((j : Int) + 1) = ((j + 1 : Nat) : Int) by unfold wrap64; omega]; simp [intOf]; omega
      · rw [if_neg hb] at hgo
        exact absurd hgo (by simp)
    · have c0 : (decide ((j : Int) < (l0.length : Int))) = false := decide_eq_false hlt
      have c1 : ((j : Int) < (l0.length : Int)) = False := eq_false hlt
      have c2 : (j < l0.length) = False := eq_false (by omega)
      have ej : j = l0.length := by omega
      have hgo := HA.out
      rw [ej, List.drop_length] at hgo
      obtain rfl : acc = r := by simpa [word_Texts.go] using hgo
      clear hlt HA hgo ej
      go_wp2_with (go_at_call 84; refine (strings_Builder_String_c w.heap.size w.heap.size acc.data.toList _ HI.out (by omega)).mono ?_)
      rintro e w1 ⟨rfl, hb1⟩
      have HB1 := Aside0.mk (HB.out.trans hb1)
      clear hb1
      go_wp2
      go_ret
      exact ⟨rfl, HB1.out⟩

end Go.Proofs.Ytnklnjghecmihaa.H3
