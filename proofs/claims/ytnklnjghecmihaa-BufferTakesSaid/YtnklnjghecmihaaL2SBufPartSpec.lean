/- What messages, and the parts that buffer.Take makes of them, do to a key. For buffers of fewer than 1000 messages. -/
import Derived.Test.YtnklnjghecmihaaL2x63
import Derived.Test.YtnklnjghecmihaaL2x61
import Derived.Test.YtnklnjghecmihaaL2SRefWordSpec
import Derived.Test.YtnklnjghecmihaaL2SBufTakeSpec
set_option linter.unusedVariables false
set_option linter.unusedSimpArgs false
namespace Go.Proofs.Ytnklnjghecmihaa.ag8
open Go.RowKit Go.Proofs.Ytnklnjghecmihaa.L2 Go.Proofs.Ytnklnjghecmihaa.Fh Go.Proofs.Ytnklnjghecmihaa.Lj Go.Proofs.Ytnklnjghecmihaa.ZU Go.Proofs.YtnklnjghecmihaaW.aQ Go.Proofs.YtnklnjghecmihaaW.dV Go.Proofs.YtnklnjghecmihaaW.fP Go.Proofs.YtnklnjghecmihaaW.Mine Go.Proofs.YtnklnjghecmihaaW.Ord
/-! ### what a message does to a key -/
def zN (q : ByteArray) (m : bC) : Bool := if Ie m = true then m.f2.toList == q.toList else if m.f0 = 4 then hold m.f2.toList m.f3.toList q.toList else false
theorem ZV (m : bC) (q : ByteArray) : jf.f m.f0 m.f1 m.f2 m.f3 m.f4 m.f5 q = some (zN q m) := by
 unfold jf.f zN
 rw [MV, Option.bind_some]
 by_cases h : Ie m = true
 ·rw [if_pos h, if_pos h]
 ·rw [if_neg h, if_neg h]
  by_cases h2 : m.f0 = 4
  ·rw [if_pos h2, if_pos h2]
   unfold hold vw
   by_cases h : Op.bytesLess q.toList m.f2.toList = true
   ·rw [if_pos h, h]; rfl
   ·rw [if_neg h, Bool.eq_false_iff.2 h]
    by_cases h2 : m.f3.toList = []
    ·rw [if_pos h2, h2]; rfl
    ·rw [if_neg h2]
     have : m.f3.toList.isEmpty = false := by simpa using h2
     rw [this]; rfl
  ·rw [if_neg h2, if_neg h2]
theorem aic (m : bC) (hf : fits m) (q : ByteArray) : tu.f m.f0 m.f1 m.f2 m.f3 m.f4 m.f5 q = some (zN q m) := by
 unfold tu.f zN
 rw [Ll, Option.bind_some]
 by_cases h : Ie m = true
 ·rw [if_pos h, if_pos h]
  by_cases h2 : m.f2.toList = q.toList
  ·rw [if_pos h2, h2]; simp
  ·rw [if_neg h2, if_neg (Fp h), beq_eq_false_iff_ne.2 h2]
 ·rw [if_neg h, if_neg h]
  by_cases h2 : m.f0 = 4
  ·have hsp : sp m = (m.f2, m.f3) := by
    unfold sp
    rw [if_neg h, if_pos h2]
   rw [if_pos h2, if_pos h2, ZR m hf, Option.bind_some, hsp, ag7]
   rfl
  ·rw [if_neg h2, if_neg h2]
def on (q : ByteArray) (m : bC) (p : ByteArray × Bool) : ByteArray × Bool := if zN q m = true then (if m.f0 = 1 then (m.f4, true) else if m.f0 = 3 then (ZP.add p.1 p.2 m.f5, true) else (⟨#[]⟩, false)) else p
def okd (m : bC) : Prop := 0 ≤ m.f5 ∧ m.f5 ≤ 18446744073709551615
def norm (p : ByteArray × Bool) : Prop := p.2 = false → p.1 = ⟨#[]⟩
theorem aqn (q : ByteArray) (m : bC) (p : ByteArray × Bool) (hp : norm p) : norm (on q m p) := by
 unfold on norm
 split
 ·split
  ·intro h; cases h
  ·split
   ·intro h; cases h
   ·intro _; rfl
 ·exact hp
theorem aMS (m : bC) (hm : okd m) (q : ByteArray) (p : ByteArray × Bool) (hp : norm p) (k : Nat) (hk : 20 ≤ k) : dH.f k m.f0 m.f1 m.f2 m.f3 m.f4 m.f5 q p.1 p.2 = some (on q m p) := by
 obtain ⟨k, rfl⟩ : ∃ k2, k = k2 + 1 := ⟨k - 1, by omega⟩
 obtain ⟨v, is⟩ := p
 have hj : dH.j0 (k + 1) q v is m.f0 m.f1 m.f2 m.f3 m.f4 m.f5 = some (on q m (v, is)) := by
  rw [dH.j0, ZV, Option.bind_some]
  unfold on
  by_cases h : zN q m = true
  ·rw [if_pos h, if_pos h]
   by_cases h1 : m.f0 = 1
   ·rw [if_pos h1, if_pos h1]
   ·rw [if_neg h1, if_neg h1]
    by_cases h3 : m.f0 = 3
    ·rw [if_pos h3, if_pos h3, ZP.Vk k (by omega) v is m.f5 hm.1 hm.2, Option.bind_some]
    ·rw [if_neg h3, if_neg h3]
  ·rw [if_neg h, if_neg h]
 unfold dH.f
 cases is with
 | true => rw [if_pos rfl, hj]
 | false =>
  have := hp rfl
  dsimp only at this
  subst this
  rw [if_neg (by decide), hj]
def vl (q : ByteArray) (l : List bC) (p : ByteArray × Bool) : ByteArray × Bool := l.foldl (fun p m => on q m p) p
theorem MW (l : List bC) (hl : l.length < 100000) (hok : ∀ m ∈ l, okd m) (q : ByteArray) : ∀ (r : List bC) (p : ByteArray × Bool) (i k : Nat), l.drop i = r → norm p → r.length + 30 < k → bD.l0 k l q p.1 p.2 (i : Int) = some (vl q r p)
 | _, _, _, 0, _, _, h => absurd h (by omega)
 | [], p, i, k + 1, h, hp, hk => by
  have := wY.drop_nil h
  rw [bD.l0, if_neg (by omega)]
  rfl
 | x :: r, p, i, k + 1, h, hp, hk => by
  obtain ⟨g1, g2, g3⟩ := wY.Ho h
  simp only [List.length_cons] at hk
  have hx : x ∈ l := List.mem_of_mem_drop (by rw [h]; exact List.mem_cons_self ..)
  rw [bD.l0, if_pos (by omega), if_pos (by omega), g2, aMS x (hok x hx) q p hp k (by omega), Option.bind_some, iY.lG i (by omega), MW l hl hok q r (on q x p) (i + 1) k g3 (aqn q x p hp) (by omega)]
  rfl
theorem aJE (l : List bC) (hl : l.length < 100000) (hok : ∀ m ∈ l, okd m) (q v : ByteArray) (is : Bool) (k : Nat) (hk : l.length + 40 < k) : bD.f k l q v is = some (vl q l (if is = true then v else ⟨#[]⟩, is)) := by
 obtain ⟨k, rfl⟩ : ∃ k2, k = k2 + 1 := ⟨k - 1, by omega⟩
 unfold bD.f
 cases is with
 | true =>
  rw [if_pos rfl, bD.j0]
  exact MW l hl hok q l (v, true) 0 k (List.drop_zero ..) (fun h => by cases h) (by omega)
 | false =>
  rw [if_neg (by decide), bD.j0]
  exact MW l hl hok q l (⟨#[]⟩, false) 0 k (List.drop_zero ..) (fun _ => rfl) (by omega)
theorem at_loop (l : List bC) (hl : l.length < 100000) (hf : ∀ m ∈ l, fits m) (q : ByteArray) : ∀ (r acc : List bC) (i k : Nat), l.drop i = r → acc.length + r.length < 200000 → r.length < k → iV.l0 k q acc l (l.length : Int) (i : Int) = some (acc ++ r.filter (zN q))
 | _, _, _, 0, _, _, h => absurd h (by omega)
 | [], acc, i, k + 1, h, ha, hk => by
  have := wY.drop_nil h
  rw [iV.l0, if_neg (by omega)]
  simp
 | x :: r, acc, i, k + 1, h, ha, hk => by
  obtain ⟨g1, g2, g3⟩ := wY.Ho h
  simp only [List.length_cons] at hk ha
  have hx : x ∈ l := List.mem_of_mem_drop (by rw [h]; exact List.mem_cons_self ..)
  rw [iV.l0, if_pos (by omega), if_pos (by omega), if_pos (by omega), g2, aic x (hf x hx) q, Option.bind_some, iY.lG i (by omega), List.filter_cons]
  cases hb : zN q x with
  | true =>
   rw [if_pos rfl, if_pos rfl, if_pos (by omega), iY.eta, at_loop l hl hf q r (acc ++ [x]) (i + 1) k g3 (by simp; omega) (by omega)]
   simp
  | false => rw [if_neg (by decide), if_neg (by decide), at_loop l hl hf q r acc (i + 1) k g3 (by omega) (by omega)]
theorem aQZ (l : List bC) (hl : l.length < 100000) (hf : ∀ m ∈ l, fits m) (q : ByteArray) (k : Nat) (hk : l.length < k) : iV.f k l q = some (l.filter (zN q)) := by
 have := at_loop l hl hf q l [] 0 k (List.drop_zero ..) (by simp; omega) hk
 unfold iV.f
 simpa using this
theorem ZW {q : ByteArray} {m : bC} (h : zN q m = false) (p : ByteArray × Bool) : on q m p = p := by
 unfold on
 rw [h, if_neg (by decide)]
theorem Fq (q : ByteArray) : ∀ (l : List bC) (p : ByteArray × Bool), vl q (l.filter (zN q)) p = vl q l p
 | [], p => rfl
 | x :: r, p => by
  rw [List.filter_cons]
  cases hb : zN q x with
  | true =>
   rw [if_pos rfl]
   exact Fq q r (on q x p)
  | false =>
   rw [if_neg (by decide), Fq q r p]
   show _ = vl q r (on q x p)
   rw [ZW hb]
theorem awG (q : ByteArray) (a b : List bC) (p : ByteArray × Bool) : vl q (a ++ b) p = vl q b (vl q a p) := by
 unfold vl
 rw [List.foldl_append]
/-! ### parts -/
/-- does a range that is right have a key? -/
def inR (r0 r1 q : ByteArray) : Bool := vw r0.toList r1.toList && hold r0.toList r1.toList q.toList
theorem ab5 {a b q : List UInt8} (h : hold a b q = true) : vw a b = true := by
 rw [lY] at h
 rw [sO]
 rcases h.2 with h2 | h2
 ·exact .inl h2
 ·exact .inr (Nb h.1 h2)
theorem Xf (a0 a1 b0 b1 q : ByteArray) : hold (Ey a0 b0).toList (if Fz b1.toList a1.toList = true then b1 else a1).toList q.toList = (hold a0.toList a1.toList q.toList && hold b0.toList b1.toList q.toList) := by
 rw [Bool.eq_iff_iff, Bool.and_eq_true, lY, lY, lY, Hg]
 constructor
 ·rintro ⟨h1, h2⟩
  have hh : ¬ L q.toList a0.toList ∧ ¬ L q.toList b0.toList := by
   by_cases hL : L a0.toList b0.toList
   ·rw [if_pos hL] at h1
    exact ⟨fun h => h1 (rM h hL), h1⟩
   ·rw [if_neg hL] at h1
    exact ⟨h1, fun h => h1 (Di h hL)⟩
  by_cases hb : Fz b1.toList a1.toList = true
  ·rw [if_pos hb] at h2
   rw [BX] at hb
   rcases h2 with h2 | h2
   ·exact absurd h2 hb.1
   ·refine ⟨⟨hh.1, ?_⟩, hh.2, .inr h2⟩
    rcases hb.2 with h3 | h3
    ·exact .inl h3
    ·exact .inr (rM h2 h3)
  ·rw [if_neg hb] at h2
   refine ⟨⟨hh.1, h2⟩, hh.2, ?_⟩
   rw [BX] at hb
   by_cases hb1 : b1.toList = []
   ·exact .inl hb1
   ·have h4 : ¬ (a1.toList = [] ∨ L b1.toList a1.toList) := fun h => hb ⟨hb1, h⟩
    rcases h2 with h2 | h2
    ·exact absurd (.inl h2) h4
    ·exact .inr (Di h2 (fun h => h4 (.inr h)))
 ·rintro ⟨⟨h1, h2⟩, h3, h4⟩
  constructor
  ·by_cases hL : L a0.toList b0.toList
   ·rw [if_pos hL]; exact h3
   ·rw [if_neg hL]; exact h1
  ·by_cases hb : Fz b1.toList a1.toList = true
   ·rw [if_pos hb]; exact h4
   ·rw [if_neg hb]; exact h2
/-- what clip keeps of what a message touches -/
theorem yw {r0 r1 q : ByteArray} {m x : bC} (hk : kd m = true) (h : clip r0 r1 m = some x) : x.f0 = m.f0 ∧ x.f1 = m.f1 ∧ x.f4 = m.f4 ∧ x.f5 = m.f5 ∧ zN q x = (zN q m && inR r0 r1 q) := by
 unfold clip at h
 by_cases h1 : (Ie m && (vw r0.toList r1.toList && hold r0.toList r1.toList m.f2.toList)) = true
 ·rw [if_pos h1] at h
  obtain rfl := Option.some.inj h
  refine ⟨rfl, rfl, rfl, rfl, ?_⟩
  rw [Bool.and_eq_true, Bool.and_eq_true] at h1
  unfold zN inR
  rw [if_pos h1.1]
  by_cases hq : m.f2.toList = q.toList
  ·rw [hq] at h1
   rw [hq, h1.2.1, h1.2.2]
   simp
  ·rw [beq_eq_false_iff_ne.2 hq]
   rfl
 ·rw [if_neg h1] at h
  by_cases h2 : m.f0 = 4 ∧ (meet m.f2 m.f3 r0 r1).2.2 = true
  ·rw [if_pos h2] at h
   obtain rfl := Option.some.inj h
   refine ⟨rfl, rfl, rfl, rfl, ?_⟩
   have hp : ¬ Ie m = true := fun h => Fp h h2.1
   have hp2 : ¬ Ie (⟨m.f0, m.f1, (meet m.f2 m.f3 r0 r1).1, (meet m.f2 m.f3 r0 r1).2.1, m.f4, m.f5⟩ : bC) = true := hp
   have hb := h2.2
   unfold zN inR
   rw [if_neg hp2, if_neg hp, if_pos h2.1, if_pos h2.1]
   unfold meet at hb ⊢
   by_cases hm : vw m.f2.toList m.f3.toList = true ∧ vw r0.toList r1.toList = true ∧ vw (Ey m.f2 r0).toList (if Fz r1.toList m.f3.toList = true then r1 else m.f3).toList = true
   ·rw [if_pos hm]
    dsimp only
    rw [Xf, hm.2.1, Bool.true_and]
   ·rw [if_neg hm] at hb
    cases hb
  ·rw [if_neg h2] at h
   cases h
theorem Xg {r0 r1 q : ByteArray} {m : bC} (h : clip r0 r1 m = none) (hr : inR r0 r1 q = true) : zN q m = false := by
 unfold inR at hr
 rw [Bool.and_eq_true] at hr
 unfold clip at h
 cases ht : zN q m with
 | false => rfl
 | true =>
  exfalso
  unfold zN at ht
  by_cases hp : Ie m = true
  ·rw [if_pos hp, beq_iff_eq] at ht
   rw [if_pos (by rw [hp, ht, hr.1, hr.2]; rfl)] at h
   cases h
  ·rw [if_neg hp] at ht
   rw [if_neg (by rw [Bool.eq_false_iff.2 hp, Bool.false_and]; decide)] at h
   by_cases h4 : m.f0 = 4
   ·rw [if_pos h4] at ht
    have hm : (meet m.f2 m.f3 r0 r1).2.2 = true := by
     unfold meet
     rw [if_pos]
     refine ⟨ab5 ht, hr.1, ab5 (q := q.toList) ?_⟩
     rw [Xf, ht, hr.2]
     rfl
    rw [if_pos ⟨h4, hm⟩] at h
    cases h
   ·rw [if_neg h4] at ht
    cases ht
theorem aCB {r0 r1 q : ByteArray} (hr : inR r0 r1 q = true) : ∀ (l : List bC), (∀ m ∈ l, kd m = true) → ∀ p, vl q (l.filterMap (clip r0 r1)) p = vl q l p
 | [], _, p => rfl
 | m :: r, hk, p => by
  rw [List.filterMap_cons]
  have ih := aCB hr r (fun x hx => hk x (List.mem_cons_of_mem _ hx))
  cases hc : clip r0 r1 m with
  | none =>
   dsimp only
   rw [ih]
   show _ = vl q r (on q m p)
   rw [ZW (Xg hc hr)]
  | some x =>
   obtain ⟨e0, e1, e4, e5, et⟩ := yw (q := q) (hk m (List.mem_cons_self ..)) hc
   rw [hr, Bool.and_true] at et
   show vl q (r.filterMap (clip r0 r1)) (on q x p) = vl q r (on q m p)
   rw [ih]
   unfold on
   rw [et, e0, e4, e5]
theorem aOU {r0 r1 q : ByteArray} (hr : inR r0 r1 q = false) {l : List bC} (hk : ∀ m ∈ l, kd m = true) : (l.filterMap (clip r0 r1)).filter (zN q) = [] := by
 refine List.filter_eq_nil_iff.2 (fun x hx => ?_)
 obtain ⟨m, hm, hc⟩ := List.mem_filterMap.1 hx
 obtain ⟨_, _, _, _, et⟩ := yw (q := q) (hk m hm) hc
 rw [et, hr, Bool.and_false]
 decide
/-! ### what a range does not have -/
/-- the range of a clipped Clear lies in the message's own -/
theorem CW {r0 r1 : ByteArray} {m x : bC} (h4 : m.f0 = 4) (h : clip r0 r1 m = some x) : vw x.f2.toList x.f3.toList = true ∧ ¬ L x.f2.toList m.f2.toList ∧ (m.f3.toList = [] ∨ (x.f3.toList ≠ [] ∧ ¬ L m.f3.toList x.f3.toList)) := by
 have hp : ¬ Ie m = true := fun h => Fp h h4
 unfold clip at h
 rw [if_neg (by rw [Bool.eq_false_iff.2 hp, Bool.false_and]; decide)] at h
 by_cases h2 : m.f0 = 4 ∧ (meet m.f2 m.f3 r0 r1).2.2 = true
 ·rw [if_pos h2] at h
  obtain rfl := Option.some.inj h
  have hb := h2.2
  unfold meet at hb ⊢
  by_cases hm : vw m.f2.toList m.f3.toList = true ∧ vw r0.toList r1.toList = true ∧ vw (Ey m.f2 r0).toList (if Fz r1.toList m.f3.toList = true then r1 else m.f3).toList = true
  ·rw [if_pos hm]
   dsimp only
   refine ⟨hm.2.2, ?_, ?_⟩
   ·rw [Hg]
    by_cases hL : L m.f2.toList r0.toList
    ·rw [if_pos hL]; exact Na hL
    ·rw [if_neg hL]; exact uD _
   ·by_cases hbf : Fz r1.toList m.f3.toList = true
    ·rw [if_pos hbf]
     rw [BX] at hbf
     rcases hbf.2 with h3 | h3
     ·exact .inl h3
     ·exact .inr ⟨hbf.1, Na h3⟩
    ·rw [if_neg hbf]
     by_cases h3 : m.f3.toList = []
     ·exact .inl h3
     ·exact .inr ⟨h3, uD _⟩
  ·rw [if_neg hm] at hb
   cases hb
 ·rw [if_neg h2] at h
  cases h
theorem ab6 {q : ByteArray} {m : bC} (h4 : m.f0 = 4) : zN q m = hold m.f2.toList m.f3.toList q.toList := by
 unfold zN
 rw [if_neg (fun h => Fp h h4), if_pos h4]
/-- a piece: it is of the message's kind and number, and touches what the message touches -/
theorem Fv {r0 r1 q : ByteArray} {m x : bC} (hx : x ∈ rest r0 r1 m) : x.f0 = m.f0 ∧ x.f1 = m.f1 ∧ x.f4 = m.f4 ∧ x.f5 = m.f5 ∧ (zN q x = true → zN q m = true ∧ inR r0 r1 q = false) := by
 unfold rest at hx
 cases hc : clip r0 r1 m with
 | none =>
  rw [hc] at hx
  obtain rfl := List.mem_singleton.1 hx
  refine ⟨rfl, rfl, rfl, rfl, fun ht => ⟨ht, ?_⟩⟩
  cases hr : inR r0 r1 q with
  | false => rfl
  | true =>
   rw [Xg hc hr] at ht
   cases ht
 | some y =>
  rw [hc] at hx
  dsimp only at hx
  by_cases h4 : m.f0 = 4
  ·rw [if_pos h4] at hx
   obtain ⟨c1, c2, c3⟩ := CW h4 hc
   obtain ⟨e0, e1, _, _, et⟩ := yw (q := q) (by unfold kd; simp [h4]) hc
   rw [ab6 (show y.f0 = 4 by rw [e0, h4]), ab6 h4] at et
   rw [ab6 h4]
   rcases List.mem_append.1 hx with hx | hx
   ·by_cases hb : Op.bytesLess m.f2.toList y.f2.toList = true
    ·rw [if_pos hb] at hx
     obtain rfl := List.mem_singleton.1 hx
     refine ⟨rfl, rfl, rfl, rfl, fun ht => ?_⟩
     rw [ab6 (show (⟨m.f0, m.f1, m.f2, y.f2, m.f4, m.f5⟩ : bC).f0 = 4 from h4)] at ht
     dsimp only at ht
     rw [lY] at ht
     have hy : y.f2.toList ≠ [] := fun e => by rw [e] at hb; exact vG hb
     have hq : L q.toList y.f2.toList := by
      rcases ht.2 with h | h
      ·exact absurd h hy
      ·exact h
     have h1 : hold m.f2.toList m.f3.toList q.toList = true := by
      rw [lY]
      refine ⟨ht.1, ?_⟩
      rcases c3 with h | ⟨h, h2⟩
      ·exact .inl h
      ·rw [sO] at c1
       rcases c1 with h3 | h3
       ·exact absurd h3 h
       ·exact .inr (Di (rM hq h3) h2)
     refine ⟨h1, ?_⟩
     rw [h1, Bool.true_and] at et
     rw [← et, ← Bool.not_eq_true, lY]
     exact fun h => h.1 hq
    ·rw [if_neg hb] at hx
     cases hx
   ·by_cases hb : Fz y.f3.toList m.f3.toList = true
    ·rw [if_pos hb] at hx
     obtain rfl := List.mem_singleton.1 hx
     refine ⟨rfl, rfl, rfl, rfl, fun ht => ?_⟩
     rw [ab6 (show (⟨m.f0, m.f1, y.f3, m.f3, m.f4, m.f5⟩ : bC).f0 = 4 from h4)] at ht
     dsimp only at ht
     rw [lY] at ht
     rw [BX] at hb
     rw [sO] at c1
     have hy : L y.f2.toList y.f3.toList := by
      rcases c1 with h3 | h3
      ·exact absurd h3 hb.1
      ·exact h3
     have hqy : ¬ L q.toList y.f2.toList := fun h => ht.1 (rM h hy)
     have h1 : hold m.f2.toList m.f3.toList q.toList = true := by
      rw [lY]
      exact ⟨fun h => hqy (Di h c2), ht.2⟩
     refine ⟨h1, ?_⟩
     rw [h1, Bool.true_and] at et
     rw [← et, ← Bool.not_eq_true, lY]
     rintro ⟨_, h | h⟩
     ·exact hb.1 h
     ·exact ht.1 h
    ·rw [if_neg hb] at hx
     cases hx
  ·rw [if_neg h4] at hx
   cases hx
theorem ag9 {r0 r1 q : ByteArray} (hr : inR r0 r1 q = true) {m x : bC} (hx : x ∈ rest r0 r1 m) : zN q x = false := by
 cases ht : zN q x with
 | false => rfl
 | true =>
  have := ((Fv hx).2.2.2.2 ht).2
  rw [hr] at this
  cases this
/-- outside the range the pieces do what the message does; one of them, at most, touches a key -/
theorem ZX {r0 r1 q : ByteArray} (hr : inR r0 r1 q = false) {m : bC} (hk : kd m = true) (p : ByteArray × Bool) : vl q (rest r0 r1 m) p = on q m p ∧ ((rest r0 r1 m).filter (zN q)).length ≤ 1 := by
 cases htm : zN q m with
 | false =>
  have h0 : (rest r0 r1 m).filter (zN q) = [] := List.filter_eq_nil_iff.2 (fun x hx h => by
   have := ((Fv hx).2.2.2.2 h).1
   rw [htm] at this
   cases this)
  refine ⟨?_, by rw [h0]; simp⟩
  rw [← Fq, h0, ZW htm]
  rfl
 | true =>
  unfold rest
  cases hc : clip r0 r1 m with
  | none =>
   dsimp only
   refine ⟨rfl, ?_⟩
   exact Nat.le_trans (List.length_filter_le _ _) (by simp)
  | some y =>
   dsimp only
   obtain ⟨e0, e1, _, _, et⟩ := yw (q := q) hk hc
   rw [htm, hr] at et
   by_cases h4 : m.f0 = 4
   ·rw [if_pos h4]
    obtain ⟨c1, c2, c3⟩ := CW h4 hc
    rw [ab6 (show y.f0 = 4 by rw [e0, h4])] at et
    have alL := htm
    rw [ab6 h4, lY] at alL
    have et2 : ¬ hold y.f2.toList y.f3.toList q.toList = true := by rw [et]; decide
    rw [lY] at et2
    have hon : ∀ p, on q m p = (⟨#[]⟩, false) := by
     intro p
     unfold on
     rw [if_pos htm, if_neg (by omega), if_neg (by omega)]
    have one : ∀ a b : ByteArray, zN q ⟨m.f0, m.f1, a, b, m.f4, m.f5⟩ = hold a.toList b.toList q.toList := fun a b => ab6 h4
    have onp : ∀ a b : ByteArray, ∀ p, hold a.toList b.toList q.toList = true → on q ⟨m.f0, m.f1, a, b, m.f4, m.f5⟩ p = (⟨#[]⟩, false) := by
     intro a b p h
     unfold on
     rw [if_pos (by rw [one]; exact h), if_neg (show ¬ m.f0 = 1 by omega), if_neg (show ¬ m.f0 = 3 by omega)]
    have onn : ∀ a b : ByteArray, ∀ p, hold a.toList b.toList q.toList = false → on q ⟨m.f0, m.f1, a, b, m.f4, m.f5⟩ p = p := fun a b p h => ZW (by rw [one]; exact h) p
    rw [hon p]
    by_cases hq : L q.toList y.f2.toList
    ·-- in the left piece
     have hl : Op.bytesLess m.f2.toList y.f2.toList = true := Nb alL.1 hq
     have hh : hold m.f2.toList y.f2.toList q.toList = true := lY.2 ⟨alL.1, .inr hq⟩
     have hh2 : Fz y.f3.toList m.f3.toList = true → hold y.f3.toList m.f3.toList q.toList = false := by
      intro hb
      rw [BX] at hb
      rw [sO] at c1
      rw [← Bool.not_eq_true, lY]
      rintro ⟨h1, _⟩
      rcases c1 with h3 | h3
      ·exact hb.1 h3
      ·exact h1 (rM hq h3)
     rw [if_pos hl]
     by_cases hb : Fz y.f3.toList m.f3.toList = true
     ·rw [if_pos hb]
      refine ⟨?_, ?_⟩
      ·show on q _ (on q _ p) = _
       rw [onp _ _ p hh, onn _ _ _ (hh2 hb)]
      ·rw [List.filter_append, List.filter_cons, List.filter_cons, one, one, hh, hh2 hb]
       simp
     ·rw [if_neg hb]
      refine ⟨?_, ?_⟩
      ·show on q _ p = _
       rw [onp _ _ p hh]
      ·exact Nat.le_trans (List.length_filter_le _ _) (by simp)
    ·-- in the right piece
     have hyq : y.f3.toList ≠ [] ∧ ¬ L q.toList y.f3.toList := by
      constructor
      ·intro h; exact et2 ⟨hq, .inl h⟩
      ·intro h; exact et2 ⟨hq, .inr h⟩
     have hb : Fz y.f3.toList m.f3.toList = true := by
      rw [BX]
      refine ⟨hyq.1, ?_⟩
      rcases alL.2 with h | h
      ·exact .inl h
      ·exact .inr (Nb hyq.2 h)
     have hh : hold y.f3.toList m.f3.toList q.toList = true := lY.2 ⟨hyq.2, alL.2⟩
     have hh2 : Op.bytesLess m.f2.toList y.f2.toList = true → hold m.f2.toList y.f2.toList q.toList = false := by
      intro hl
      rw [← Bool.not_eq_true, lY]
      rintro ⟨_, h | h⟩
      ·rw [h] at hl; exact vG hl
      ·exact hq h
     rw [if_pos hb]
     by_cases hl : Op.bytesLess m.f2.toList y.f2.toList = true
     ·rw [if_pos hl]
      refine ⟨?_, ?_⟩
      ·show on q _ (on q _ p) = _
       rw [onn _ _ p (hh2 hl), onp _ _ p hh]
      ·rw [List.filter_append, List.filter_cons, List.filter_cons, one, one, hh, hh2 hl]
       simp
     ·rw [if_neg hl]
      refine ⟨?_, ?_⟩
      ·show on q _ p = _
       rw [onp _ _ p hh]
      ·exact Nat.le_trans (List.length_filter_le _ _) (by simp)
   ·exfalso
    have hp : Ie m = true := by
     unfold Ie
     unfold kd at hk
     simp at hk ⊢
     omega
    unfold clip at hc
    by_cases h1 : (Ie m && (vw r0.toList r1.toList && hold r0.toList r1.toList m.f2.toList)) = true
    ·rw [Bool.and_eq_true, Bool.and_eq_true] at h1
     unfold zN at htm
     rw [if_pos hp, beq_iff_eq] at htm
     rw [htm] at h1
     unfold inR at hr
     rw [h1.2.1, h1.2.2] at hr
     cases hr
    ·rw [if_neg h1, if_neg (fun h => h4 h.1)] at hc
     cases hc
theorem ag_ {r0 r1 q : ByteArray} (hr : inR r0 r1 q = false) : ∀ (l : List bC), (∀ m ∈ l, kd m = true) → ∀ p, vl q (l.flatMap (rest r0 r1)) p = vl q l p
 | [], _, p => rfl
 | m :: r, hk, p => by
  rw [List.flatMap_cons, awG, (ZX hr (hk m (List.mem_cons_self ..)) p).1, ag_ hr r (fun x hx => hk x (List.mem_cons_of_mem _ hx))]
  rfl
/-! ### in a buffer, what touches one key has numbers that rise -/
def nx (a b : bC) : Prop := a.f1 < b.f1 ∨ (a.f1 = b.f1 ∧ (sp a).2.toList ≠ [] ∧ ¬ L b.f2.toList (sp a).2.toList)
theorem tY {m : bC} (h : own m = true) : kd m = true ∧ vw m.f2.toList (sp m).2.toList = true := by
 unfold own at h
 rw [Bool.and_eq_true] at h
 rw [Lm h.1] at h
 exact h
theorem aCC {a b : bC} (ha : own a = true) (hb : own b = true) (h : nxt a b = true) : nx a b := by
 unfold nxt at h
 rw [Bool.and_eq_true] at h
 have h1 : iY.lt a b = true := h.1
 rw [iY.lt_iff] at h1
 rcases h1 with h1 | ⟨h1, h2⟩
 ·exact .inl h1
 ·refine .inr ⟨h1, ?_⟩
  have hm := h.2
  rw [decide_eq_true h1, Bool.true_and] at hm
  obtain ⟨ka, aa⟩ := tY ha
  obtain ⟨kb, ab⟩ := tY hb
  unfold meet at hm
  rw [Lm ka, Lm kb] at hm
  by_cases hc : vw a.f2.toList (sp a).2.toList = true ∧ vw b.f2.toList (sp b).2.toList = true ∧ vw (Ey a.f2 b.f2).toList (if Fz (sp b).2.toList (sp a).2.toList = true then (sp b).2 else (sp a).2).toList = true
  ·rw [if_pos hc] at hm
   cases hm
  ·have hc2 : ¬ vw b.f2.toList (if Fz (sp b).2.toList (sp a).2.toList = true then (sp b).2 else (sp a).2).toList = true := by
    intro h5
    refine hc ⟨aa, ab, ?_⟩
    rw [Hg, if_pos h2]
    exact h5
   by_cases hbf : Fz (sp b).2.toList (sp a).2.toList = true
   ·rw [if_pos hbf] at hc2
    exact absurd ab hc2
   ·rw [if_neg hbf, sO] at hc2
    exact ⟨fun h => hc2 (.inl h), fun h => hc2 (.inr h)⟩
theorem alM {a b c : bC} (hb : own b = true) (h1 : nx a b) (h2 : nx b c) : nx a c := by
 rcases h1 with h1 | ⟨h1, h3, h4⟩
 ·rcases h2 with h2 | ⟨h2, _⟩
  ·exact .inl (by omega)
  ·exact .inl (by omega)
 ·rcases h2 with h2 | ⟨h2, h5, h6⟩
  ·exact .inl (by omega)
  ·refine .inr ⟨by omega, h3, fun h7 => ?_⟩
   have hb2 := (tY hb).2
   rw [sO] at hb2
   rcases hb2 with hb2 | hb2
   ·exact h5 hb2
   ·exact h4 (rM (Di hb2 h6) h7)
theorem ata (l : List bC) (hr : rt l = true) : (∀ m ∈ l, own m = true) ∧ l.Pairwise nx := by
 have hM : ∀ i, (hi : i < l.length) → M l i = l[i] := by
  intro i hi
  unfold M aj
  rw [Int.toNat_natCast, List.getD_eq_getElem?_getD, List.getElem?_eq_getElem hi, Option.getD_some]
 have hown : ∀ i, (hi : i < l.length) → own l[i] = true := by
  intro i hi
  rw [← hM i hi]
  exact awy l hr i hi
 refine ⟨fun m hm => ?_, ?_⟩
 ·obtain ⟨i, hi, rfl⟩ := List.mem_iff_getElem.1 hm
  exact hown i hi
 ·rw [List.pairwise_iff_getElem]
  intro i j hi hj hij
  induction j with
  | zero => omega
  | succ j ih =>
   have h1 : nx l[j] l[j + 1] := by
    have h := awz l hr (j + 1) (by omega) hj
    rw [hM _ (by omega), hM _ hj] at h
    exact aCC (hown j (by omega)) (hown (j + 1) hj) h
   rcases Nat.lt_or_ge i j with h3 | h3
   ·exact alM (hown j (by omega)) (ih (by omega) h3) h1
   ·obtain rfl : i = j := by omega
    exact h1
theorem alN {q : ByteArray} {m : bC} (hk : kd m = true) (h : zN q m = true) : ¬ L q.toList m.f2.toList ∧ ((sp m).2.toList = [] ∨ L q.toList (sp m).2.toList) := by
 unfold zN at h
 unfold sp
 by_cases hp : Ie m = true
 ·rw [if_pos hp, beq_iff_eq] at h
  rw [if_pos hp, h]
  refine ⟨uD _, .inr ?_⟩
  dsimp only
  rw [Hf, h]
  exact LM _
 ·rw [if_neg hp] at h
  rw [if_neg hp]
  by_cases h4 : m.f0 = 4
  ·rw [if_pos h4, lY] at h
   rw [if_pos h4]
   exact h
  ·rw [if_neg h4] at h
   cases h
theorem alO {q : ByteArray} {a b : bC} (ka : kd a = true) (kb : kd b = true) (h : nx a b) (ha : zN q a = true) (hb : zN q b = true) : a.f1 < b.f1 := by
 rcases h with h | ⟨_, h2, h3⟩
 ·exact h
 ·exfalso
  obtain ⟨_, a2⟩ := alN ka ha
  obtain ⟨b1, _⟩ := alN kb hb
  rcases a2 with a2 | a2
  ·exact h2 a2
  ·exact h3 (Nb b1 a2)
theorem aha {r0 r1 q : ByteArray} (hr : inR r0 r1 q = false) : ∀ (l : List bC), (∀ m ∈ l, kd m = true) → l.Pairwise nx → Sd iY.lt ((l.flatMap (rest r0 r1)).filter (zN q))
 | [], _, _ => Sd.nil
 | m :: r, hk, hp => by
  have hp2 := List.pairwise_cons.1 hp
  have km := hk m (List.mem_cons_self ..)
  rw [List.flatMap_cons, List.filter_append]
  refine Sd.app ?_ (aha hr r (fun x hx => hk x (List.mem_cons_of_mem _ hx)) hp2.2) ?_
  ·have h1 := (ZX hr km (⟨#[]⟩, false)).2
   generalize (rest r0 r1 m).filter (zN q) = z at h1
   match z, h1 with
   | [], _ => exact Sd.nil
   | [x], _ => exact Sd.one x
   | x :: y :: t, h1 => simp at h1
  ·intro x hx y hy
   obtain ⟨hx1, hx2⟩ := List.mem_filter.1 hx
   obtain ⟨hy1, hy2⟩ := List.mem_filter.1 hy
   obtain ⟨m', hm', hy3⟩ := List.mem_flatMap.1 hy1
   obtain ⟨_, ex, _, _, tx⟩ := Fv (q := q) hx1
   obtain ⟨_, ey, _, _, ty⟩ := Fv (q := q) hy3
   have := alO km (hk m' (List.mem_cons_of_mem _ hm')) (hp2.1 m' hm') (tx hx2).1 (ty hy2).1
   rw [← Bool.not_eq_true, iY.lt_iff]
   rintro (h | ⟨h, _⟩) <;> omega
/-- what is left does, outside the range, what the messages do -/
theorem aMT {r0 r1 q : ByteArray} (hr : inR r0 r1 q = false) (l R : List bC) (hl : rt l = true) (hR : Sd iY.lt R) (hS : St iY.lt R (l.flatMap (rest r0 r1))) (p : ByteArray × Bool) : vl q R p = vl q l p := by
 obtain ⟨ho, hp⟩ := ata l hl
 have hk : ∀ m ∈ l, kd m = true := fun m hm => (tY (ho m hm)).1
 have e : R.filter (zN q) = (l.flatMap (rest r0 r1)).filter (zN q) := by
  refine uniq iY.sw _ _ (List.Pairwise.filter _ hR) (aha hr l hk hp) (fun c => ?_)
  rw [List.filter_filter, List.filter_filter]
  have h1 : ∀ z : List bC, z.filter (fun a => eqv iY.lt c a && zN q a) = (z.filter (eqv iY.lt c)).filter (zN q) := by
   intro z
   rw [List.filter_filter]
   congr 1
   funext a
   exact Bool.and_comm _ _
  rw [h1, h1, hS c]
 rw [← Fq q R, e, Fq, ag_ hr l hk]
theorem aMU {r0 r1 q : ByteArray} (hr : inR r0 r1 q = true) (l R : List bC) (hS : St iY.lt R (l.flatMap (rest r0 r1))) : R.filter (zN q) = [] := by
 refine List.filter_eq_nil_iff.2 (fun x hx h => ?_)
 obtain ⟨m, _, hm⟩ := List.mem_flatMap.1 (St.mem iY.sw hS x hx)
 rw [ag9 hr hm] at h
 cases h
theorem aie {a0 a1 b0 b1 : ByteArray} {n : Nat} (h0 : a0.size ≤ n) (h1 : a1.size ≤ n) (h2 : b0.size ≤ n) (h3 : b1.size ≤ n) : (meet a0 a1 b0 b1).1.size ≤ n ∧ (meet a0 a1 b0 b1).2.1.size ≤ n := by
 unfold meet
 by_cases hc : vw a0.toList a1.toList = true ∧ vw b0.toList b1.toList = true ∧ vw (Ey a0 b0).toList (if Fz b1.toList a1.toList = true then b1 else a1).toList = true
 ·rw [if_pos hc]
  refine ⟨?_, ?_⟩
  ·show (Ey a0 b0).size ≤ n
   unfold Ey
   split
   ·exact h2
   ·exact h0
  ·show (if Fz b1.toList a1.toList = true then b1 else a1).size ≤ n
   split
   ·exact h3
   ·exact h1
 ·rw [if_neg hc]
  exact ⟨Nat.zero_le _, Nat.zero_le _⟩
theorem aif {r0 r1 : ByteArray} {m x : bC} {n : Nat} (h2 : m.f2.size ≤ n) (h3 : m.f3.size ≤ n) (h0 : r0.size ≤ n) (h1 : r1.size ≤ n) (hc : clip r0 r1 m = some x) : x.f2.size ≤ n ∧ x.f3.size ≤ n := by
 unfold clip at hc
 split at hc
 ·obtain rfl := Option.some.inj hc
  exact ⟨h2, h3⟩
 ·split at hc
  ·obtain rfl := Option.some.inj hc
   exact aie h2 h3 h0 h1
  ·cases hc
theorem aii {r0 r1 : ByteArray} {m x : bC} {n : Nat} (h2 : m.f2.size ≤ n) (hs : ∀ y, clip r0 r1 m = some y → y.f2.size ≤ n ∧ y.f3.size ≤ n) (hx : x ∈ rest r0 r1 m) : x.f2.size ≤ n := by
 unfold rest at hx
 cases hc : clip r0 r1 m with
 | none =>
  rw [hc] at hx
  obtain rfl := List.mem_singleton.1 hx
  exact h2
 | some y =>
  rw [hc] at hx
  dsimp only at hx
  obtain ⟨y2, y3⟩ := hs y hc
  split at hx
  ·rcases List.mem_append.1 hx with h | h
   ·split at h
    ·obtain rfl := List.mem_singleton.1 h
     exact (h2 : m.f2.size ≤ n)
    ·cases h
   ·split at h
    ·obtain rfl := List.mem_singleton.1 h
     exact y3
    ·cases h
  ·cases hx
end Go.Proofs.Ytnklnjghecmihaa.ag8
