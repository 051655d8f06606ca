/- The law ArenaTexts, walked: true. -/
import Derived.Test.YtpfikmchimlneaaArS
set_option linter.unusedVariables false
set_option linter.unusedSimpArgs false
namespace Go.Proofs.Ytpfikmchimlneaa.Ar
open Go.RowKit Go.Proofs.YtpfikmchimlneaaW.PrintWords Go.Proofs.YtpfikmchimlneaaW.PrintWords.Kd Go.Proofs.YtpfikmchimlneaaW.PrintLast Go.Proofs.YtpfikmchimlneaaW.PrintMore Go.Proofs.YtpfikmchimlneaaW.Sl Go.Proofs.YtpfikmchimlneaaW.Ar Go.Proofs.YtpfikmchimlneaaW.Mine
attribute [local go_sem] min2_int min_two
variable {B g : Nat} {v : Value} {W : World}
theorem info9 : (Try.prog.info? 9).map (fun i => (i.zero, i.size, i.bytes)) = some (some (.string ⟨#[]⟩), 1, 16) := by kernel_rfl
structure HasS (B : Nat) (w0 : World) (g : Nat) (s : St ByteArray) (W : World) : Prop where mk ::
  out : ∃ v, AS B W g v s ∧ Below B w0 W ∧ B ≤ w0.heap.size
theorem HasS.below {w0 : World} {s : St ByteArray} (h : HasS B w0 g s W) : Below B w0 W := by obtain ⟨_, _, h, _⟩ := h.out; exact h
theorem HasS.keep {w0 W' : World} {s : St ByteArray} (h : HasS B w0 g s W) (hb : Below W.heap.size W W') : HasS B w0 g s W' := by
  obtain ⟨v, hA, h1, h2⟩ := h.out
  exact ⟨v, hA.keep hb, h1.trans (hb.mono (Nat.le_trans h2 h1.size)), h2⟩
theorem take_hS {w0 : World} {s : St ByteArray} (h : HasS B w0 g s W) (x : ByteArray) (i : Int) (s' : St ByteArray) (hm : take1 s x = some (s', i)) (h0 : 0 ≤ s.used) (h1 : s.used < s.most) (h2 : s.most < 1000000) :
    Calls Try.prog 14 #[.pointer (some ⟨g, 0, none⟩), .string x] W fun e W' => e = .returned (.tuple #[.int .i64 i, .int .i64 0]) ∧ HasS B w0 g s' W' := by
  obtain ⟨v, hA, k1, k2⟩ := h.out
  refine (take_str W hA x i s' hm h0 h1 h2).mono (fun e W' ⟨he, hd⟩ => ⟨he, ?_⟩)
  obtain ⟨v', h3, h4, h5⟩ := hd.out
  exact ⟨v', h3, k1.trans (hA.below h4 (Nat.le_refl _) (Nat.le_trans k2 k1.size)), k2⟩
theorem get_hS {w0 : World} {s : St ByteArray} (h : HasS B w0 g s W) (hl : s.cells.length < 1000000) (i : Int) (x : ByteArray) (b : Bool) (hg : getS s i = (x, b)) :
    Calls Try.prog 15 #[.pointer (some ⟨g, 0, none⟩), .int .i64 i] W fun e W' => e = .returned (.tuple #[.string x, .bool b]) ∧ W = W' := by
  obtain ⟨v, hA, k1, k2⟩ := h.out
  have := get_str W hA i hl
  rw [hg] at this
  exact this
theorem top_hS {w0 : World} {s : St ByteArray} (h : HasS B w0 g s W) (n : Nat) (hn : s.cells.length = n) :
    Calls Try.prog 17 #[.pointer (some ⟨g, 0, none⟩)] W fun e W' => e = .returned (.int .i64 (n : Int)) ∧ W = W' := by
  obtain ⟨v, hA, k1, k2⟩ := h.out
  subst hn
  exact top_str W hA
theorem HasS.new (w0 : World) (hb : Below B w0 W) (h2 : B ≤ w0.heap.size) (most : Int) : HasS B w0 W.heap.size ⟨[], 0, 0, most⟩ (W.alloc (.cells #[.slice none 0 0, .int .i64 0, .int .i64 0, .int .i64 most] 98)) :=
  ⟨_, at_newS W B (Nat.le_trans h2 hb.size) most, hb.alloc (Nat.le_trans h2 hb.size) _, h2⟩
/-- behind k texts -/
def tx (l : List ByteArray) (k : Nat) : St ByteArray := ⟨(l.take k).map (fun x => (x, true, 0)), 0, (k : Int), 20⟩
theorem tx_len (l : List ByteArray) (k : Nat) (h : k ≤ l.length) : (tx l k).cells.length = k := by simp [tx, h]
set_option maxRecDepth 20000 in
theorem tx_take (l : List ByteArray) (k : Nat) (h : k < l.length) (hk : k < 20) : take1 (tx l k) (rdOf ByteArray.empty l (k : Int)) = some (tx l (k + 1), (k : Int) + 1) := by
  have h1 := tx_len l k (Nat.le_of_lt h)
  unfold take1
  rw [if_pos ⟨by simp [tx], by simp [tx]; omega, by omega⟩, if_neg (by simp [tx]), h1]
  have h2 : rdOf ByteArray.empty l (k : Int) = l[k] := by simp [rdOf, List.getD_eq_getElem?_getD, h]
  rw [h2]
  have h3 : l.take (k + 1) = l.take k ++ [l[k]] := List.take_succ_eq_append_getElem h
  unfold tx
  rw [h3, List.map_append]
  rfl
theorem tx_get (l : List ByteArray) (m k : Nat) (hm : m ≤ l.length) (h : k < m) : getS (tx l m) ((k : Int) + 1) = (rdOf ByteArray.empty l (k : Int), true) := by
  have h1 := tx_len l m hm
  have h3 : ((k : Int) + 1 - 1).toNat = k := by omega
  have hk : k < (tx l m).cells.length := by omega
  have hkl : k < l.length := by omega
  have h4 : (tx l m).cells[k]? = some (l[k], true, 0) := by simp [tx, h, hkl]
  have h5 : (tx l m).has ((k : Int) + 1) = true := by
    unfold St.has
    rw [decide_eq_true (by omega), decide_eq_true (by omega), h3, h4]
    rfl
  unfold getS
  rw [if_pos h5, h3, List.getD_eq_getElem?_getD, h4]
  simp [rdOf, List.getD_eq_getElem?_getD, hkl]
theorem tx_none (l : List ByteArray) (m : Nat) (hm : m ≤ l.length) : getS (tx l m) ((m : Int) + 1) = (ByteArray.mk #[], false) := by
  have h1 := tx_len l m hm
  have h5 : (tx l m).has ((m : Int) + 1) = false := by
    unfold St.has
    rw [decide_eq_true (show (1 : Int) ≤ (m : Int) + 1 by omega), decide_eq_false (show ¬ ((m : Int) + 1 ≤ ((tx l m).cells.length : Int)) by omega)]
    rfl
  unfold getS
  rw [if_neg (by rw [h5]; decide)]
set_option maxHeartbeats 8000000 in
set_option maxRecDepth 100000 in
theorem texts_go (A0 : Option Addr) (n c0 m : Nat) (l : List ByteArray) (w : World) (hC : Kd.C Kd.string w A0 n l) (hn : n ≤ c0) (hnm : n ≤ 140737488355328) (hm : m ≤ n) (hm2 : m ≤ 20) (hmin : (if (20 : Int) < (n : Int) then (20 : Int) else (n : Int)) = (m : Int)) :
    Calls Try.prog 3 #[.slice A0 n c0] w fun e w' => e = .returned (.bool true) ∧ Below w.heap.size w w' := by
  have H0 := HasS.new w (Below.refl w.heap.size w) (Nat.le_refl _) 20
  have hl : l.length = n := hC.1
  have HC := Aside0.mk hC
  have HL := Aside0.mk hl
  have HN := Aside0.mk hnm
  obtain ⟨i0, hi0, _⟩ := Option.map_eq_some_iff.1 info9
  have hct := cut_to (P := Try.prog) 22 9 .i64 Try.underlying22 hi0 A0 n c0 (m : Int) (by omega) (by omega) hn
  rw [Int.toNat_natCast] at hct
  have hm0 : (0 : Int) ≤ (m : Int) := by omega
  have hmn : (m : Int) ≤ (n : Int) := by omega
  clear hC hl hi0
  go_enter Try.func3, Try.ntmps3
  go_wp2_with (go_at_call 13; refine (new_str _ 20 (by decide) (by decide)).mono ?_; rintro e w1 ⟨rfl, rfl⟩)
  have HI : HasS w.heap.size w w.heap.size (tx l 0) (w.alloc (.cells #[.slice none 0 0, .int .i64 0, .int .i64 0, .int .i64 20] 98)) := H0
  clear H0 hct hmin hn hnm hmn hm0
  go_loopw [5] (fun i wr => ∃ k : Nat, i = .int .i64 (k : Int) ∧ k ≤ m ∧ HasS w.heap.size w w.heap.size (tx l k) wr) (fun i _ => m - (intOf i).toNat)
  case atStart => exact ⟨0, rfl, Nat.zero_le _, HI⟩
  case round =>
    obtain ⟨k, rfl, hk, HK⟩ := hrel
    clear HI
    by_cases hlt : k < m
    · have HTK := Aside0.mk (tx_take l k (by have := HL.out; omega) (by omega))
      have HK2 := Aside0.mk HK
      obtain ⟨ad, rfl, hcell⟩ := at_string (Kd.C_below HC.out HK.below) (k : Int) (by omega) (by omega)
      rw [Int.toNat_natCast] at hcell
      have HLK := Aside0.mk (tx_len l k (by have := HL.out; omega))
      clear HK
      generalize rdOf ByteArray.empty l (k : Int) = x at *
      go_wp2_with (go_at_call 14; refine (take_hS HK2.out x _ _ HTK.out (by simp [tx]) (by simp [tx]; omega) (by simp [tx])).mono ?_; rintro e w2 ⟨rfl, hd⟩; have HD := Aside0.mk hd; clear hd)
      go_roundw
      case rel => exact ⟨k + 1, by simp, by omega, HD.out⟩
      case measure => simp [intOf]; omega
    · obtain rfl : k = m := by omega
      have HM := Aside0.mk HK
      clear HK hlt
      have hkn : k < 1000000 := by omega
      go_wp2
      go_loop [8] (fun i => ∃ q : Nat, i = .int .i64 (q : Int) ∧ q ≤ k) (fun i => k - (intOf i).toNat)
      case atStart => exact ⟨0, rfl, Nat.zero_le _⟩
      case round =>
        obtain ⟨q, rfl, hq⟩ := hrel
        by_cases hlt : q < k
        · have HG := Aside0.mk (tx_get l k q (by have := HL.out; omega) hlt)
          have HTL := Aside0.mk (tx_len l k (by have := HL.out; omega))
          obtain ⟨ad, rfl, hcell⟩ := at_string (Kd.C_below HC.out HM.out.below) (q : Int) (by omega) (by omega)
          rw [Int.toNat_natCast] at hcell
          generalize rdOf ByteArray.empty l (q : Int) = x at *
          go_wp2_with (go_at_call 15; refine (get_hS HM.out (by have := HTL.out; omega) _ x true HG.out).mono ?_; rintro e w2 ⟨rfl, rfl⟩)
          go_round
          case rel => exact ⟨q + 1, by simp, by omega⟩
          case measure => simp [intOf]; omega
        · obtain rfl : q = k := by omega
          have HG := Aside0.mk (tx_none l q (by have := HL.out; omega))
          have HTL := Aside0.mk (tx_len l q (by have := HL.out; omega))
          clear hlt hq hk
          go_wp2_with (first
            | (go_at_call 15; refine (get_hS HM.out (by have := HTL.out; omega) _ _ false HG.out).mono ?_; rintro e w2 ⟨rfl, rfl⟩)
            | (go_at_call 16; refine (live_calls _).mono ?_; rintro e w2 ⟨rfl, hb⟩; have HM2 := Aside0.mk (HM.out.keep hb); clear hb)
            | (go_at_call 17; refine (top_hS HM2.out q HTL.out).mono ?_; rintro e w3 ⟨rfl, rfl⟩))
          go_ret
          exact ⟨rfl, HM2.out.below⟩
theorem texts_calls (A0 : Option Addr) (c0 : Nat) (l : List ByteArray) (w : World) (hC : Kd.C Kd.string w A0 l.length l) (hn : l.length ≤ c0) (hl : l.length ≤ 140737488355328) :
    Calls Try.prog 3 #[.slice A0 l.length c0] w fun e w' => e = .returned (.bool true) ∧ Below w.heap.size w w' := by
  by_cases h : 20 < l.length
  · exact texts_go A0 l.length c0 20 l w hC hn hl (by omega) (by omega) (by rw [if_pos (by omega)]; rfl)
  · exact texts_go A0 l.length c0 l.length l w hC hn hl (by omega) (by omega) (by rw [if_neg (by omega)])
end Go.Proofs.Ytpfikmchimlneaa.Ar
