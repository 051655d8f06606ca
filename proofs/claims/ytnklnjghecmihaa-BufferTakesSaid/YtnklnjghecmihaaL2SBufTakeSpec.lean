/- What buffer.Take answers: what a range has of messages, and what it does not have; what both do to a key. For rows of fewer than 1000 messages. -/
import Derived.Test.YtnklnjghecmihaaL2x37
import Derived.Test.YtnklnjghecmihaaL2SBufSpec
import Derived.Test.YtnklnjghecmihaaL2SBufAddSpec
set_option linter.unusedVariables false
set_option linter.unusedSimpArgs false
namespace Go.Proofs.Ytnklnjghecmihaa.ZU
open Go.RowKit Go.Proofs.Ytnklnjghecmihaa.L2 Go.Proofs.Ytnklnjghecmihaa.Fh Go.Proofs.Ytnklnjghecmihaa.Lj Go.Proofs.Ytnklnjghecmihaa.wY Go.Proofs.YtnklnjghecmihaaW.aQ Go.Proofs.YtnklnjghecmihaaW.dV Go.Proofs.YtnklnjghecmihaaW.fP Go.Proofs.YtnklnjghecmihaaW.Mine Go.Proofs.YtnklnjghecmihaaW.Ord
/-- has a range a key? -/
def hold (a b q : List UInt8) : Bool := !(Op.bytesLess q a) && vw q b
theorem lY {a b q : List UInt8} : hold a b q = true ↔ ¬ L q a ∧ (b = [] ∨ L q b) := by simp [hold, vw, L]
theorem ag7 (a b q : ByteArray) : jE.f a b q = some (hold a.toList b.toList q.toList) := by
 unfold jE.f hold
 by_cases h : Op.bytesLess q.toList a.toList = true
 ·rw [if_pos h, h]; rfl
 ·rw [if_neg h, Bool.eq_false_iff.2 h, Lj.O8]; rfl
/-- the part of a message that a range has -/
def clip (r0 r1 : ByteArray) (m : bC) : Option bC :=
 if (Ie m && (vw r0.toList r1.toList && hold r0.toList r1.toList m.f2.toList)) = true then some m
 else if m.f0 = 4 ∧ (meet m.f2 m.f3 r0 r1).2.2 = true then some ⟨m.f0, m.f1, (meet m.f2 m.f3 r0 r1).1, (meet m.f2 m.f3 r0 r1).2.1, m.f4, m.f5⟩ else none
def Z8 (o : Option bC) : Int × Int × ByteArray × ByteArray × ByteArray × Int × Bool := match o with
 | some m => (m.f0, m.f1, m.f2, m.f3, m.f4, m.f5, true)
 | none => (0, 0, ⟨#[]⟩, ⟨#[]⟩, ⟨#[]⟩, 0, false)
theorem Fp {m : bC} (h : Ie m = true) : m.f0 ≠ 4 := by
 unfold Ie at h
 simp at h
 omega
theorem ady (r0 r1 : ByteArray) (m : bC) (hf : fits m) (k : Nat) (hk : 4 ≤ k) : dL.f k m.f0 m.f1 m.f2 m.f3 m.f4 m.f5 r0 r1 = some (Z8 (clip r0 r1 m)) := by
 obtain ⟨k, rfl⟩ : ∃ k2, k = k2 + 2 := ⟨k - 2, by omega⟩
 have hj : dL.j0 (k + 2) false m.f0 m.f1 m.f2 m.f3 m.f4 m.f5 r0 r1 = some (Z8 (if m.f0 = 4 ∧ (meet m.f2 m.f3 r0 r1).2.2 = true then some ⟨m.f0, m.f1, (meet m.f2 m.f3 r0 r1).1, (meet m.f2 m.f3 r0 r1).2.1, m.f4, m.f5⟩ else none)) := by
  rw [dL.j0, if_neg (by decide)]
  by_cases h4 : m.f0 = 4
  ·have hsp : sp m = (m.f2, m.f3) := by
    unfold sp
    rw [if_neg (fun h => Fp h h4), if_pos h4]
   rw [if_pos h4, ZR m hf, Option.bind_some, hsp, awx, Option.bind_some]
   by_cases hb : (meet m.f2 m.f3 r0 r1).2.2 = true
   ·rw [if_pos hb, if_pos ⟨h4, hb⟩]
    rfl
   ·rw [if_neg hb, if_neg (fun h => hb h.2)]
    rfl
  ·rw [if_neg h4, if_neg (fun h => h4 h.1)]
   rfl
 unfold dL.f clip
 rw [Ll, Option.bind_some]
 cases hp : Ie m with
 | false =>
  rw [if_neg (by decide), hj, Bool.false_and, if_neg (show ¬ (false = true) by decide)]
 | true =>
  rw [if_pos rfl, He, Option.bind_some, Bool.true_and]
  cases ha : vw r0.toList r1.toList with
  | false => rw [if_neg (by decide), hj, Bool.false_and, if_neg (show ¬ (false = true) by decide)]
  | true =>
   rw [if_pos rfl, ag7, Option.bind_some, Bool.true_and]
   cases hh : hold r0.toList r1.toList m.f2.toList with
   | false => rw [hj, if_neg (show ¬ (false = true) by decide)]
   | true => rw [dL.j0, if_pos rfl, if_pos rfl]; rfl
/-- the parts of a message that a range does not have -/
def rest (r0 r1 : ByteArray) (m : bC) : List bC := match clip r0 r1 m with
 | none => [m]
 | some x => if m.f0 = 4 then (if Op.bytesLess m.f2.toList x.f2.toList = true then [⟨m.f0, m.f1, m.f2, x.f2, m.f4, m.f5⟩] else []) ++ (if Fz x.f3.toList m.f3.toList = true then [⟨m.f0, m.f1, x.f3, m.f3, m.f4, m.f5⟩] else []) else []
theorem Vp (r0 r1 : ByteArray) (m : bC) : (rest r0 r1 m).length ≤ 2 := by
 unfold rest
 split
 ·simp
 ·split
  ·rw [List.length_append]
   split <;> split <;> simp
  ·simp
theorem awE (r0 r1 : ByteArray) (m : bC) (hk4 : kd m = true) (hf : fits m) (k : Nat) (hk : 10 ≤ k) : fG.f k m.f0 m.f1 m.f2 m.f3 m.f4 m.f5 r0 r1 = some (rest r0 r1 m) := by
 obtain ⟨k, rfl⟩ : ∃ k2, k = k2 + 2 := ⟨k - 2, by omega⟩
 unfold kd at hk4
 simp at hk4
 unfold fG.f
 rw [if_neg (by omega), decide_eq_false (by omega), fG.j0, if_neg (by decide), ady r0 r1 m hf _ (by omega), Option.bind_some]
 unfold rest
 cases hc : clip r0 r1 m with
 | none =>
  rw [if_neg (by simp [Z8])]
 | some x =>
  rw [if_pos (by simp [Z8])]
  by_cases h4 : m.f0 = 4
  ·have ht2 : (Z8 (some x)).2.2.1 = x.f2 := rfl
   have ht3 : (Z8 (some x)).2.2.2.1 = x.f3 := rfl
   rw [if_pos h4, ht2, ht3]
   show _ = some (if m.f0 = 4 then _ else _)
   rw [if_pos h4]
   by_cases hb : Op.bytesLess m.f2.toList x.f2.toList = true
   ·rw [if_pos hb, if_pos hb, if_pos (by simp), fG.j1, Vm, Option.bind_some]
    by_cases hc : Fz x.f3.toList m.f3.toList = true
    ·rw [if_pos hc, if_pos hc, if_pos (by simp)]
     rfl
    ·rw [if_neg hc, if_neg hc]
     rfl
   ·rw [if_neg hb, if_neg hb, fG.j1, Vm, Option.bind_some]
    by_cases hc : Fz x.f3.toList m.f3.toList = true
    ·rw [if_pos hc, if_pos hc, if_pos (by simp)]
    ·rw [if_neg hc, if_neg hc]
     rfl
  ·rw [if_neg h4]
   show _ = some (if m.f0 = 4 then _ else _)
   rw [if_neg h4]
theorem Xe (r0 r1 : ByteArray) (l : List bC) (hl : l.length < 1000) (hk : ∀ m ∈ l, kd m = true) (hf : ∀ m ∈ l, fits m) (R : List bC) : ∀ (r inn out : List bC) (i : Nat), l.drop i = r → inn.length + r.length < 2000 → out.length + 2 * r.length < 4000 → (Ev fun k => jc.f k (out ++ r.flatMap (rest r0 r1)) [] = some R) → Ev fun k => bY.l0 k inn out l (l.length : Int) (i : Int) r0 r1 = some (inn ++ r.filterMap (clip r0 r1), R)
 | [], inn, out, i, h, h1, h2, hR => by
  have := drop_nil h
  refine hR.step fun k hk => ?_
  rw [bY.l0, if_neg (by omega)]
  rw [List.flatMap_nil, List.append_nil] at hk
  rw [hk, Option.bind_some]
  simp
 | x :: r, inn, out, i, h, h1, h2, hR => by
  obtain ⟨g1, g2, g3⟩ := Ho h
  simp only [List.length_cons] at h1 h2
  have hx : x ∈ l := by
   have : x ∈ l.drop i := by rw [h]; exact List.mem_cons_self ..
   exact List.mem_of_mem_drop this
  have hlen := Vp r0 r1 x
  have hj : ∀ alK : List bC, alK.length + r.length < 2000 → Ev fun k => bY.j1 k alK out l (l.length : Int) (i : Int) r0 r1 x.f0 x.f1 x.f2 x.f3 x.f4 x.f5 = some (alK ++ r.filterMap (clip r0 r1), R) := by
   intro alK h3
   have ih := Xe r0 r1 l hl hk hf R r alK (out ++ rest r0 r1 x) (i + 1) g3 h3 (by rw [List.length_append]; omega) (by
    refine hR.mono fun k hk => ?_
    rw [List.flatMap_cons] at hk
    rw [List.append_assoc]
    exact hk)
   refine (ih.and (Ev.of 10 fun k hk => hk)).step fun k ⟨hk1, hk10⟩ => ?_
   rw [bY.j1, awE r0 r1 x (hk x hx) (hf x hx) k hk10, Option.bind_some, if_pos (by omega), iY.lG i (by omega)]
   exact hk1
  cases hc : clip r0 r1 x with
  | none =>
   refine ((hj inn (by omega)).and (Ev.of 10 fun k hk => hk)).step fun k ⟨hk1, hk10⟩ => ?_
   rw [bY.l0, if_pos (by omega), if_pos (by omega), if_pos (by omega), g2, ady r0 r1 x (hf x hx) k (by omega), Option.bind_some, hc, if_neg (by simp [Z8]), hk1, List.filterMap_cons, hc]
  | some y =>
   refine ((hj (inn ++ [y]) (by simp; omega)).and (Ev.of 10 fun k hk => hk)).step fun k ⟨hk1, hk10⟩ => ?_
   rw [bY.l0, if_pos (by omega), if_pos (by omega), if_pos (by omega), g2, ady r0 r1 x (hf x hx) k (by omega), Option.bind_some, hc, if_pos (by simp [Z8]), if_pos (by omega)]
   dsimp only [Z8]
   rw [iY.eta, hk1, List.filterMap_cons, hc]
   simp
theorem awF (r0 r1 : ByteArray) (l : List bC) (hl : l.length < 1000) (hk : ∀ m ∈ l, kd m = true) (hf : ∀ m ∈ l, fits m) : ∃ R, Sd iY.lt R ∧ St iY.lt R (l.flatMap (rest r0 r1)) ∧ R.length ≤ 2 * l.length ∧ Ev fun k => bY.f k l r0 r1 = some (l.filterMap (clip r0 r1), R) := by
 have hlen : (l.flatMap (rest r0 r1)).length ≤ 2 * l.length := by
  clear hl hk hf
  induction l with
  | nil => simp
  | cons x r ih =>
   rw [List.flatMap_cons, List.length_append, List.length_cons]
   have := Vp r0 r1 x
   omega
 obtain ⟨R, a1, a2, a3, a4⟩ := iY.aCA (l.flatMap (rest r0 r1)) [] (by simp only [List.length_nil]; omega)
 rw [List.append_nil] at a2
 simp only [List.length_nil] at a3
 refine ⟨R, a1, a2, by omega, ?_⟩
 have := Xe r0 r1 l hl hk hf R l [] [] 0 (List.drop_zero ..) (by simp; omega) (by simp; omega) (by simpa using a4)
 refine this.mono fun k hk => ?_
 unfold bY.f
 simpa using hk
end Go.Proofs.Ytnklnjghecmihaa.ZU
