/- What buffer.Take answers: what a range has of messages, and what it does not have; what both do to a key. For rows of fewer than 1000 messages. -/
import Derived.Test.YtnklnjghecmihaaL2x37
import Derived.Test.YtnklnjghecmihaaL2SBufSpec
import Derived.Test.YtnklnjghecmihaaL2SBufAddSpec
set_option linter.unusedVariables false
set_option linter.unusedSimpArgs false
namespace Go.Proofs.Ytnklnjghecmihaa.BufTake
open Go.RowKit Go.Proofs.Ytnklnjghecmihaa.L2 Go.Proofs.Ytnklnjghecmihaa.SortSpec Go.Proofs.Ytnklnjghecmihaa.BufSpec Go.Proofs.Ytnklnjghecmihaa.BufAdd Go.Proofs.YtnklnjghecmihaaW.PrintWords Go.Proofs.YtnklnjghecmihaaW.PrintLast Go.Proofs.YtnklnjghecmihaaW.PrintMore Go.Proofs.YtnklnjghecmihaaW.Mine Go.Proofs.YtnklnjghecmihaaW.Ord
/-- has a range a key? -/
def hold (a b q : List UInt8) : Bool := !(Op.bytesLess q a) && ahd q b
theorem hold_iff {a b q : List UInt8} : hold a b q = true ↔ ¬ L q a ∧ (b = [] ∨ L q b) := by simp [hold, ahd, L]
theorem holds_f (a b q : ByteArray) : key_Holds.f a b q = some (hold a.toList b.toList q.toList) := by
 unfold key_Holds.f hold
 by_cases h : Op.bytesLess q.toList a.toList = true
 ·rw [if_pos h, h]; rfl
 ·rw [if_neg h, Bool.eq_false_iff.2 h, BufSpec.ahead_f]; rfl
/-- the part of a message that a range has -/
def clip (r0 r1 : ByteArray) (m : S46) : Option S46 :=
 if (pnt m && (ahd r0.toList r1.toList && hold r0.toList r1.toList m.f2.toList)) = true then some m
 else if m.f0 = 4 ∧ (meet m.f2 m.f3 r0 r1).2.2 = true then some ⟨m.f0, m.f1, (meet m.f2 m.f3 r0 r1).1, (meet m.f2 m.f3 r0 r1).2.1, m.f4, m.f5⟩ else none
def tup (o : Option S46) : Int × Int × ByteArray × ByteArray × ByteArray × Int × Bool := match o with
 | some m => (m.f0, m.f1, m.f2, m.f3, m.f4, m.f5, true)
 | none => (0, 0, ⟨#[]⟩, ⟨#[]⟩, ⟨#[]⟩, 0, false)
theorem pnt_not4 {m : S46} (h : pnt m = true) : m.f0 ≠ 4 := by
 unfold pnt at h
 simp at h
 omega
theorem clip_f (r0 r1 : ByteArray) (m : S46) (hf : fits m) (k : Nat) (hk : 4 ≤ k) : msg_Clip.f k m.f0 m.f1 m.f2 m.f3 m.f4 m.f5 r0 r1 = some (tup (clip r0 r1 m)) := by
 obtain ⟨k, rfl⟩ : ∃ k2, k = k2 + 2 := ⟨k - 2, by omega⟩
 have hj : msg_Clip.j0 (k + 2) false m.f0 m.f1 m.f2 m.f3 m.f4 m.f5 r0 r1 = some (tup (if m.f0 = 4 ∧ (meet m.f2 m.f3 r0 r1).2.2 = true then some ⟨m.f0, m.f1, (meet m.f2 m.f3 r0 r1).1, (meet m.f2 m.f3 r0 r1).2.1, m.f4, m.f5⟩ else none)) := by
  rw [msg_Clip.j0, if_neg (by decide)]
  by_cases h4 : m.f0 = 4
  ·have hsp : sp m = (m.f2, m.f3) := by
    unfold sp
    rw [if_neg (fun h => pnt_not4 h h4), if_pos h4]
   rw [if_pos h4, span_f m hf, Option.bind_some, hsp, meet_f, Option.bind_some]
   by_cases hb : (meet m.f2 m.f3 r0 r1).2.2 = true
   ·rw [if_pos hb, if_pos ⟨h4, hb⟩]
    rfl
   ·rw [if_neg hb, if_neg (fun h => hb h.2)]
    rfl
  ·rw [if_neg h4, if_neg (fun h => h4 h.1)]
   rfl
 unfold msg_Clip.f clip
 rw [isPoint_f, Option.bind_some]
 cases hp : pnt m with
 | false =>
  rw [if_neg (by decide), hj, Bool.false_and, if_neg (show ¬ (false = true) by decide)]
 | true =>
  rw [if_pos rfl, rightRange_f, Option.bind_some, Bool.true_and]
  cases ha : ahd r0.toList r1.toList with
  | false => rw [if_neg (by decide), hj, Bool.false_and, if_neg (show ¬ (false = true) by decide)]
  | true =>
   rw [if_pos rfl, holds_f, Option.bind_some, Bool.true_and]
   cases hh : hold r0.toList r1.toList m.f2.toList with
   | false => rw [hj, if_neg (show ¬ (false = true) by decide)]
   | true => rw [msg_Clip.j0, if_pos rfl, if_pos rfl]; rfl
/-- the parts of a message that a range does not have -/
def rest (r0 r1 : ByteArray) (m : S46) : List S46 := match clip r0 r1 m with
 | none => [m]
 | some x => if m.f0 = 4 then (if Op.bytesLess m.f2.toList x.f2.toList = true then [⟨m.f0, m.f1, m.f2, x.f2, m.f4, m.f5⟩] else []) ++ (if bef x.f3.toList m.f3.toList = true then [⟨m.f0, m.f1, x.f3, m.f3, m.f4, m.f5⟩] else []) else []
theorem rest_len (r0 r1 : ByteArray) (m : S46) : (rest r0 r1 m).length ≤ 2 := by
 unfold rest
 split
 ·simp
 ·split
  ·rw [List.length_append]
   split <;> split <;> simp
  ·simp
theorem rest_f (r0 r1 : ByteArray) (m : S46) (hk4 : kd m = true) (hf : fits m) (k : Nat) (hk : 10 ≤ k) : msg_Rest.f k m.f0 m.f1 m.f2 m.f3 m.f4 m.f5 r0 r1 = some (rest r0 r1 m) := by
 obtain ⟨k, rfl⟩ : ∃ k2, k = k2 + 2 := ⟨k - 2, by omega⟩
 unfold kd at hk4
 simp at hk4
 unfold msg_Rest.f
 rw [if_neg (by omega), decide_eq_false (by omega), msg_Rest.j0, if_neg (by decide), clip_f r0 r1 m hf _ (by omega), Option.bind_some]
 unfold rest
 cases hc : clip r0 r1 m with
 | none =>
  rw [if_neg (by simp [tup])]
 | some x =>
  rw [if_pos (by simp [tup])]
  by_cases h4 : m.f0 = 4
  ·have ht2 : (tup (some x)).2.2.1 = x.f2 := rfl
   have ht3 : (tup (some x)).2.2.2.1 = x.f3 := rfl
   rw [if_pos h4, ht2, ht3]
   show _ = some (if m.f0 = 4 then _ else _)
   rw [if_pos h4]
   by_cases hb : Op.bytesLess m.f2.toList x.f2.toList = true
   ·rw [if_pos hb, if_pos hb, if_pos (by simp), msg_Rest.j1, before_f, Option.bind_some]
    by_cases hc : bef x.f3.toList m.f3.toList = true
    ·rw [if_pos hc, if_pos hc, if_pos (by simp)]
     rfl
    ·rw [if_neg hc, if_neg hc]
     rfl
   ·rw [if_neg hb, if_neg hb, msg_Rest.j1, before_f, Option.bind_some]
    by_cases hc : bef x.f3.toList m.f3.toList = true
    ·rw [if_pos hc, if_pos hc, if_pos (by simp)]
    ·rw [if_neg hc, if_neg hc]
     rfl
  ·rw [if_neg h4]
   show _ = some (if m.f0 = 4 then _ else _)
   rw [if_neg h4]
theorem take_loop (r0 r1 : ByteArray) (l : List S46) (hl : l.length < 1000) (hk : ∀ m ∈ l, kd m = true) (hf : ∀ m ∈ l, fits m) (R : List S46) : ∀ (r inn out : List S46) (i : Nat), l.drop i = r → inn.length + r.length < 2000 → out.length + 2 * r.length < 4000 → (Ev fun k => buffer_Add.f k (out ++ r.flatMap (rest r0 r1)) [] = some R) → Ev fun k => buffer_Take.l0 k inn out l (l.length : Int) (i : Int) r0 r1 = some (inn ++ r.filterMap (clip r0 r1), R)
 | [], inn, out, i, h, h1, h2, hR => by
  have := drop_nil h
  refine hR.step fun k hk => ?_
  rw [buffer_Take.l0, if_neg (by omega)]
  rw [List.flatMap_nil, List.append_nil] at hk
  rw [hk, Option.bind_some]
  simp
 | x :: r, inn, out, i, h, h1, h2, hR => by
  obtain ⟨g1, g2, g3⟩ := rd_drop h
  simp only [List.length_cons] at h1 h2
  have hx : x ∈ l := by
   have : x ∈ l.drop i := by rw [h]; exact List.mem_cons_self ..
   exact List.mem_of_mem_drop this
  have hlen := rest_len r0 r1 x
  have hj : ∀ inn2 : List S46, inn2.length + r.length < 2000 → Ev fun k => buffer_Take.j1 k inn2 out l (l.length : Int) (i : Int) r0 r1 x.f0 x.f1 x.f2 x.f3 x.f4 x.f5 = some (inn2 ++ r.filterMap (clip r0 r1), R) := by
   intro inn2 h3
   have ih := take_loop r0 r1 l hl hk hf R r inn2 (out ++ rest r0 r1 x) (i + 1) g3 h3 (by rw [List.length_append]; omega) (by
    refine hR.mono fun k hk => ?_
    rw [List.flatMap_cons] at hk
    rw [List.append_assoc]
    exact hk)
   refine (ih.and (Ev.of 10 fun k hk => hk)).step fun k ⟨hk1, hk10⟩ => ?_
   rw [buffer_Take.j1, rest_f r0 r1 x (hk x hx) (hf x hx) k hk10, Option.bind_some, if_pos (by omega), StbSpec.succ_nat i (by omega)]
   exact hk1
  cases hc : clip r0 r1 x with
  | none =>
   refine ((hj inn (by omega)).and (Ev.of 10 fun k hk => hk)).step fun k ⟨hk1, hk10⟩ => ?_
   rw [buffer_Take.l0, if_pos (by omega), if_pos (by omega), if_pos (by omega), g2, clip_f r0 r1 x (hf x hx) k (by omega), Option.bind_some, hc, if_neg (by simp [tup]), hk1, List.filterMap_cons, hc]
  | some y =>
   refine ((hj (inn ++ [y]) (by simp; omega)).and (Ev.of 10 fun k hk => hk)).step fun k ⟨hk1, hk10⟩ => ?_
   rw [buffer_Take.l0, if_pos (by omega), if_pos (by omega), if_pos (by omega), g2, clip_f r0 r1 x (hf x hx) k (by omega), Option.bind_some, hc, if_pos (by simp [tup]), if_pos (by omega)]
   dsimp only [tup]
   rw [StbSpec.eta, hk1, List.filterMap_cons, hc]
   simp
theorem take_f (r0 r1 : ByteArray) (l : List S46) (hl : l.length < 1000) (hk : ∀ m ∈ l, kd m = true) (hf : ∀ m ∈ l, fits m) : ∃ R, Sd StbSpec.lt R ∧ St StbSpec.lt R (l.flatMap (rest r0 r1)) ∧ R.length ≤ 2 * l.length ∧ Ev fun k => buffer_Take.f k l r0 r1 = some (l.filterMap (clip r0 r1), R) := by
 have hlen : (l.flatMap (rest r0 r1)).length ≤ 2 * l.length := by
  clear hl hk hf
  induction l with
  | nil => simp
  | cons x r ih =>
   rw [List.flatMap_cons, List.length_append, List.length_cons]
   have := rest_len r0 r1 x
   omega
 obtain ⟨R, a1, a2, a3, a4⟩ := StbSpec.add_f (l.flatMap (rest r0 r1)) [] (by simp only [List.length_nil]; omega)
 rw [List.append_nil] at a2
 simp only [List.length_nil] at a3
 refine ⟨R, a1, a2, by omega, ?_⟩
 have := take_loop r0 r1 l hl hk hf R l [] [] 0 (List.drop_zero ..) (by simp; omega) (by simp; omega) (by simpa using a4)
 refine this.mono fun k hk => ?_
 unfold buffer_Take.f
 simpa using hk
end Go.Proofs.Ytnklnjghecmihaa.BufTake
