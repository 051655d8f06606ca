/- What messages, and the parts that buffer.Take makes of them, do to a key. For buffers of fewer than 1000 messages. -/
import Derived.Test.YtnklnjghecmihaaL2x63
import Derived.Test.YtnklnjghecmihaaL2x61
import Derived.Test.YtnklnjghecmihaaL2SRefWordSpec
import Derived.Test.YtnklnjghecmihaaL2SBufTakeSpec
set_option linter.unusedVariables false
set_option linter.unusedSimpArgs false
namespace Go.Proofs.Ytnklnjghecmihaa.BufPart
open Go.RowKit Go.Proofs.Ytnklnjghecmihaa.L2 Go.Proofs.Ytnklnjghecmihaa.SortSpec Go.Proofs.Ytnklnjghecmihaa.BufSpec Go.Proofs.Ytnklnjghecmihaa.BufTake Go.Proofs.YtnklnjghecmihaaW.PrintWords Go.Proofs.YtnklnjghecmihaaW.PrintLast Go.Proofs.YtnklnjghecmihaaW.PrintMore Go.Proofs.YtnklnjghecmihaaW.Mine Go.Proofs.YtnklnjghecmihaaW.Ord
/-! ### what a message does to a key -/
def tch (q : ByteArray) (m : S46) : Bool := if pnt m = true then m.f2.toList == q.toList else if m.f0 = 4 then hold m.f2.toList m.f3.toList q.toList else false
theorem refTouches_f (m : S46) (q : ByteArray) : catchmentref04_Touches.f m.f0 m.f1 m.f2 m.f3 m.f4 m.f5 q = some (tch q m) := by
 unfold catchmentref04_Touches.f tch
 rw [refPoint_f, Option.bind_some]
 by_cases h : pnt m = true
 ·rw [if_pos h, if_pos h]
 ·rw [if_neg h, if_neg h]
  by_cases h2 : m.f0 = 4
  ·rw [if_pos h2, if_pos h2]
   unfold hold ahd
   by_cases h : Op.bytesLess q.toList m.f2.toList = true
   ·rw [if_pos h, h]; rfl
   ·rw [if_neg h, Bool.eq_false_iff.2 h]
    by_cases h2 : m.f3.toList = []
    ·rw [if_pos h2, h2]; rfl
    ·rw [if_neg h2]
     have : m.f3.toList.isEmpty = false := by simpa using h2
     rw [this]; rfl
  ·rw [if_neg h2, if_neg h2]
theorem touches_f (m : S46) (hf : fits m) (q : ByteArray) : msg_Touches.f m.f0 m.f1 m.f2 m.f3 m.f4 m.f5 q = some (tch q m) := by
 unfold msg_Touches.f tch
 rw [isPoint_f, Option.bind_some]
 by_cases h : pnt m = true
 ·rw [if_pos h, if_pos h]
  by_cases h2 : m.f2.toList = q.toList
  ·rw [if_pos h2, h2]; simp
  ·rw [if_neg h2, if_neg (pnt_not4 h), beq_eq_false_iff_ne.2 h2]
 ·rw [if_neg h, if_neg h]
  by_cases h2 : m.f0 = 4
  ·have hsp : sp m = (m.f2, m.f3) := by
    unfold sp
    rw [if_neg h, if_pos h2]
   rw [if_pos h2, if_pos h2, span_f m hf, Option.bind_some, hsp, holds_f]
   rfl
  ·rw [if_neg h2, if_neg h2]
def on (q : ByteArray) (m : S46) (p : ByteArray × Bool) : ByteArray × Bool := if tch q m = true then (if m.f0 = 1 then (m.f4, true) else if m.f0 = 3 then (RefWord.add p.1 p.2 m.f5, true) else (⟨#[]⟩, false)) else p
def okd (m : S46) : Prop := 0 ≤ m.f5 ∧ m.f5 ≤ 18446744073709551615
def norm (p : ByteArray × Bool) : Prop := p.2 = false → p.1 = ⟨#[]⟩
theorem on_norm (q : ByteArray) (m : S46) (p : ByteArray × Bool) (hp : norm p) : norm (on q m p) := by
 unfold on norm
 split
 ·split
  ·intro h; cases h
  ·split
   ·intro h; cases h
   ·intro _; rfl
 ·exact hp
theorem on_f (m : S46) (hm : okd m) (q : ByteArray) (p : ByteArray × Bool) (hp : norm p) (k : Nat) (hk : 20 ≤ k) : catchmentref04_On.f k m.f0 m.f1 m.f2 m.f3 m.f4 m.f5 q p.1 p.2 = some (on q m p) := by
 obtain ⟨k, rfl⟩ : ∃ k2, k = k2 + 1 := ⟨k - 1, by omega⟩
 obtain ⟨v, is⟩ := p
 have hj : catchmentref04_On.j0 (k + 1) q v is m.f0 m.f1 m.f2 m.f3 m.f4 m.f5 = some (on q m (v, is)) := by
  rw [catchmentref04_On.j0, refTouches_f, Option.bind_some]
  unfold on
  by_cases h : tch q m = true
  ·rw [if_pos h, if_pos h]
   by_cases h1 : m.f0 = 1
   ·rw [if_pos h1, if_pos h1]
   ·rw [if_neg h1, if_neg h1]
    by_cases h3 : m.f0 = 3
    ·rw [if_pos h3, if_pos h3, RefWord.refAdd_f k (by omega) v is m.f5 hm.1 hm.2, Option.bind_some]
    ·rw [if_neg h3, if_neg h3]
  ·rw [if_neg h, if_neg h]
 unfold catchmentref04_On.f
 cases is with
 | true => rw [if_pos rfl, hj]
 | false =>
  have := hp rfl
  dsimp only at this
  subst this
  rw [if_neg (by decide), hj]
def vl (q : ByteArray) (l : List S46) (p : ByteArray × Bool) : ByteArray × Bool := l.foldl (fun p m => on q m p) p
theorem value_loop (l : List S46) (hl : l.length < 100000) (hok : ∀ m ∈ l, okd m) (q : ByteArray) : ∀ (r : List S46) (p : ByteArray × Bool) (i k : Nat), l.drop i = r → norm p → r.length + 30 < k → catchmentref05_Value.l0 k l q p.1 p.2 (i : Int) = some (vl q r p)
 | _, _, _, 0, _, _, h => absurd h (by omega)
 | [], p, i, k + 1, h, hp, hk => by
  have := BufAdd.drop_nil h
  rw [catchmentref05_Value.l0, if_neg (by omega)]
  rfl
 | x :: r, p, i, k + 1, h, hp, hk => by
  obtain ⟨g1, g2, g3⟩ := BufAdd.rd_drop h
  simp only [List.length_cons] at hk
  have hx : x ∈ l := List.mem_of_mem_drop (by rw [h]; exact List.mem_cons_self ..)
  rw [catchmentref05_Value.l0, if_pos (by omega), if_pos (by omega), g2, on_f x (hok x hx) q p hp k (by omega), Option.bind_some, StbSpec.succ_nat i (by omega), value_loop l hl hok q r (on q x p) (i + 1) k g3 (on_norm q x p hp) (by omega)]
  rfl
theorem value_f (l : List S46) (hl : l.length < 100000) (hok : ∀ m ∈ l, okd m) (q v : ByteArray) (is : Bool) (k : Nat) (hk : l.length + 40 < k) : catchmentref05_Value.f k l q v is = some (vl q l (if is = true then v else ⟨#[]⟩, is)) := by
 obtain ⟨k, rfl⟩ : ∃ k2, k = k2 + 1 := ⟨k - 1, by omega⟩
 unfold catchmentref05_Value.f
 cases is with
 | true =>
  rw [if_pos rfl, catchmentref05_Value.j0]
  exact value_loop l hl hok q l (v, true) 0 k (List.drop_zero ..) (fun h => by cases h) (by omega)
 | false =>
  rw [if_neg (by decide), catchmentref05_Value.j0]
  exact value_loop l hl hok q l (⟨#[]⟩, false) 0 k (List.drop_zero ..) (fun _ => rfl) (by omega)
theorem at_loop (l : List S46) (hl : l.length < 100000) (hf : ∀ m ∈ l, fits m) (q : ByteArray) : ∀ (r acc : List S46) (i k : Nat), l.drop i = r → acc.length + r.length < 200000 → r.length < k → buffer_At.l0 k q acc l (l.length : Int) (i : Int) = some (acc ++ r.filter (tch q))
 | _, _, _, 0, _, _, h => absurd h (by omega)
 | [], acc, i, k + 1, h, ha, hk => by
  have := BufAdd.drop_nil h
  rw [buffer_At.l0, if_neg (by omega)]
  simp
 | x :: r, acc, i, k + 1, h, ha, hk => by
  obtain ⟨g1, g2, g3⟩ := BufAdd.rd_drop h
  simp only [List.length_cons] at hk ha
  have hx : x ∈ l := List.mem_of_mem_drop (by rw [h]; exact List.mem_cons_self ..)
  rw [buffer_At.l0, if_pos (by omega), if_pos (by omega), if_pos (by omega), g2, touches_f x (hf x hx) q, Option.bind_some, StbSpec.succ_nat i (by omega), List.filter_cons]
  cases hb : tch q x with
  | true =>
   rw [if_pos rfl, if_pos rfl, if_pos (by omega), StbSpec.eta, at_loop l hl hf q r (acc ++ [x]) (i + 1) k g3 (by simp; omega) (by omega)]
   simp
  | false => rw [if_neg (by decide), if_neg (by decide), at_loop l hl hf q r acc (i + 1) k g3 (by omega) (by omega)]
theorem at_f (l : List S46) (hl : l.length < 100000) (hf : ∀ m ∈ l, fits m) (q : ByteArray) (k : Nat) (hk : l.length < k) : buffer_At.f k l q = some (l.filter (tch q)) := by
 have := at_loop l hl hf q l [] 0 k (List.drop_zero ..) (by simp; omega) hk
 unfold buffer_At.f
 simpa using this
theorem on_not {q : ByteArray} {m : S46} (h : tch q m = false) (p : ByteArray × Bool) : on q m p = p := by
 unfold on
 rw [h, if_neg (by decide)]
theorem vl_filter (q : ByteArray) : ∀ (l : List S46) (p : ByteArray × Bool), vl q (l.filter (tch q)) p = vl q l p
 | [], p => rfl
 | x :: r, p => by
  rw [List.filter_cons]
  cases hb : tch q x with
  | true =>
   rw [if_pos rfl]
   exact vl_filter q r (on q x p)
  | false =>
   rw [if_neg (by decide), vl_filter q r p]
   show _ = vl q r (on q x p)
   rw [on_not hb]
theorem vl_app (q : ByteArray) (a b : List S46) (p : ByteArray × Bool) : vl q (a ++ b) p = vl q b (vl q a p) := by
 unfold vl
 rw [List.foldl_append]
/-! ### parts -/
/-- does a range that is right have a key? -/
def inR (r0 r1 q : ByteArray) : Bool := ahd r0.toList r1.toList && hold r0.toList r1.toList q.toList
theorem hold_ahd {a b q : List UInt8} (h : hold a b q = true) : ahd a b = true := by
 rw [hold_iff] at h
 rw [ahd_iff]
 rcases h.2 with h2 | h2
 ·exact .inl h2
 ·exact .inr (L_of_le h.1 h2)
theorem hold_meet (a0 a1 b0 b1 q : ByteArray) : hold (smx a0 b0).toList (if bef b1.toList a1.toList = true then b1 else a1).toList q.toList = (hold a0.toList a1.toList q.toList && hold b0.toList b1.toList q.toList) := by
 rw [Bool.eq_iff_iff, Bool.and_eq_true, hold_iff, hold_iff, hold_iff, smx_toList]
 constructor
 ·rintro ⟨h1, h2⟩
  have hh : ¬ L q.toList a0.toList ∧ ¬ L q.toList b0.toList := by
   by_cases hL : L a0.toList b0.toList
   ·rw [if_pos hL] at h1
    exact ⟨fun h => h1 (L_trans h hL), h1⟩
   ·rw [if_neg hL] at h1
    exact ⟨h1, fun h => h1 (L_of_lt h hL)⟩
  by_cases hb : bef b1.toList a1.toList = true
  ·rw [if_pos hb] at h2
   rw [bef_iff] at hb
   rcases h2 with h2 | h2
   ·exact absurd h2 hb.1
   ·refine ⟨⟨hh.1, ?_⟩, hh.2, .inr h2⟩
    rcases hb.2 with h3 | h3
    ·exact .inl h3
    ·exact .inr (L_trans h2 h3)
  ·rw [if_neg hb] at h2
   refine ⟨⟨hh.1, h2⟩, hh.2, ?_⟩
   rw [bef_iff] at hb
   by_cases hb1 : b1.toList = []
   ·exact .inl hb1
   ·have h4 : ¬ (a1.toList = [] ∨ L b1.toList a1.toList) := fun h => hb ⟨hb1, h⟩
    rcases h2 with h2 | h2
    ·exact absurd (.inl h2) h4
    ·exact .inr (L_of_lt h2 (fun h => h4 (.inr h)))
 ·rintro ⟨⟨h1, h2⟩, h3, h4⟩
  constructor
  ·by_cases hL : L a0.toList b0.toList
   ·rw [if_pos hL]; exact h3
   ·rw [if_neg hL]; exact h1
  ·by_cases hb : bef b1.toList a1.toList = true
   ·rw [if_pos hb]; exact h4
   ·rw [if_neg hb]; exact h2
/-- what clip keeps of what a message touches -/
theorem clip_some {r0 r1 q : ByteArray} {m x : S46} (hk : kd m = true) (h : clip r0 r1 m = some x) : x.f0 = m.f0 ∧ x.f1 = m.f1 ∧ x.f4 = m.f4 ∧ x.f5 = m.f5 ∧ tch q x = (tch q m && inR r0 r1 q) := by
 unfold clip at h
 by_cases h1 : (pnt m && (ahd r0.toList r1.toList && hold r0.toList r1.toList m.f2.toList)) = true
 ·rw [if_pos h1] at h
  obtain rfl := Option.some.inj h
  refine ⟨rfl, rfl, rfl, rfl, ?_⟩
  rw [Bool.and_eq_true, Bool.and_eq_true] at h1
  unfold tch inR
  rw [if_pos h1.1]
  by_cases hq : m.f2.toList = q.toList
  ·rw [hq] at h1
   rw [hq, h1.2.1, h1.2.2]
   simp
  ·rw [beq_eq_false_iff_ne.2 hq]
   rfl
 ·rw [if_neg h1] at h
  by_cases h2 : m.f0 = 4 ∧ (meet m.f2 m.f3 r0 r1).2.2 = true
  ·rw [if_pos h2] at h
   obtain rfl := Option.some.inj h
   refine ⟨rfl, rfl, rfl, rfl, ?_⟩
   have hp : ¬ pnt m = true := fun h => pnt_not4 h h2.1
   have hp2 : ¬ pnt (⟨m.f0, m.f1, (meet m.f2 m.f3 r0 r1).1, (meet m.f2 m.f3 r0 r1).2.1, m.f4, m.f5⟩ : S46) = true := hp
   have hb := h2.2
   unfold tch inR
   rw [if_neg hp2, if_neg hp, if_pos h2.1, if_pos h2.1]
   unfold meet at hb ⊢
   by_cases hm : ahd m.f2.toList m.f3.toList = true ∧ ahd r0.toList r1.toList = true ∧ ahd (smx m.f2 r0).toList (if bef r1.toList m.f3.toList = true then r1 else m.f3).toList = true
   ·rw [if_pos hm]
    dsimp only
    rw [hold_meet, hm.2.1, Bool.true_and]
   ·rw [if_neg hm] at hb
    cases hb
  ·rw [if_neg h2] at h
   cases h
theorem clip_none {r0 r1 q : ByteArray} {m : S46} (h : clip r0 r1 m = none) (hr : inR r0 r1 q = true) : tch q m = false := by
 unfold inR at hr
 rw [Bool.and_eq_true] at hr
 unfold clip at h
 cases ht : tch q m with
 | false => rfl
 | true =>
  exfalso
  unfold tch at ht
  by_cases hp : pnt m = true
  ·rw [if_pos hp, beq_iff_eq] at ht
   rw [if_pos (by rw [hp, ht, hr.1, hr.2]; rfl)] at h
   cases h
  ·rw [if_neg hp] at ht
   rw [if_neg (by rw [Bool.eq_false_iff.2 hp, Bool.false_and]; decide)] at h
   by_cases h4 : m.f0 = 4
   ·rw [if_pos h4] at ht
    have hm : (meet m.f2 m.f3 r0 r1).2.2 = true := by
     unfold meet
     rw [if_pos]
     refine ⟨hold_ahd ht, hr.1, hold_ahd (q := q.toList) ?_⟩
     rw [hold_meet, ht, hr.2]
     rfl
    rw [if_pos ⟨h4, hm⟩] at h
    cases h
   ·rw [if_neg h4] at ht
    cases ht
theorem in_vl {r0 r1 q : ByteArray} (hr : inR r0 r1 q = true) : ∀ (l : List S46), (∀ m ∈ l, kd m = true) → ∀ p, vl q (l.filterMap (clip r0 r1)) p = vl q l p
 | [], _, p => rfl
 | m :: r, hk, p => by
  rw [List.filterMap_cons]
  have ih := in_vl hr r (fun x hx => hk x (List.mem_cons_of_mem _ hx))
  cases hc : clip r0 r1 m with
  | none =>
   dsimp only
   rw [ih]
   show _ = vl q r (on q m p)
   rw [on_not (clip_none hc hr)]
  | some x =>
   obtain ⟨e0, e1, e4, e5, et⟩ := clip_some (q := q) (hk m (List.mem_cons_self ..)) hc
   rw [hr, Bool.and_true] at et
   show vl q (r.filterMap (clip r0 r1)) (on q x p) = vl q r (on q m p)
   rw [ih]
   unfold on
   rw [et, e0, e4, e5]
theorem in_no {r0 r1 q : ByteArray} (hr : inR r0 r1 q = false) {l : List S46} (hk : ∀ m ∈ l, kd m = true) : (l.filterMap (clip r0 r1)).filter (tch q) = [] := by
 refine List.filter_eq_nil_iff.2 (fun x hx => ?_)
 obtain ⟨m, hm, hc⟩ := List.mem_filterMap.1 hx
 obtain ⟨_, _, _, _, et⟩ := clip_some (q := q) (hk m hm) hc
 rw [et, hr, Bool.and_false]
 decide
/-! ### what a range does not have -/
/-- the range of a clipped Clear lies in the message's own -/
theorem clip_clear {r0 r1 : ByteArray} {m x : S46} (h4 : m.f0 = 4) (h : clip r0 r1 m = some x) : ahd x.f2.toList x.f3.toList = true ∧ ¬ L x.f2.toList m.f2.toList ∧ (m.f3.toList = [] ∨ (x.f3.toList ≠ [] ∧ ¬ L m.f3.toList x.f3.toList)) := by
 have hp : ¬ pnt m = true := fun h => pnt_not4 h h4
 unfold clip at h
 rw [if_neg (by rw [Bool.eq_false_iff.2 hp, Bool.false_and]; decide)] at h
 by_cases h2 : m.f0 = 4 ∧ (meet m.f2 m.f3 r0 r1).2.2 = true
 ·rw [if_pos h2] at h
  obtain rfl := Option.some.inj h
  have hb := h2.2
  unfold meet at hb ⊢
  by_cases hm : ahd m.f2.toList m.f3.toList = true ∧ ahd r0.toList r1.toList = true ∧ ahd (smx m.f2 r0).toList (if bef r1.toList m.f3.toList = true then r1 else m.f3).toList = true
  ·rw [if_pos hm]
   dsimp only
   refine ⟨hm.2.2, ?_, ?_⟩
   ·rw [smx_toList]
    by_cases hL : L m.f2.toList r0.toList
    ·rw [if_pos hL]; exact L_asymm hL
    ·rw [if_neg hL]; exact L_irrefl _
   ·by_cases hbf : bef r1.toList m.f3.toList = true
    ·rw [if_pos hbf]
     rw [bef_iff] at hbf
     rcases hbf.2 with h3 | h3
     ·exact .inl h3
     ·exact .inr ⟨hbf.1, L_asymm h3⟩
    ·rw [if_neg hbf]
     by_cases h3 : m.f3.toList = []
     ·exact .inl h3
     ·exact .inr ⟨h3, L_irrefl _⟩
  ·rw [if_neg hm] at hb
   cases hb
 ·rw [if_neg h2] at h
  cases h
theorem tch4 {q : ByteArray} {m : S46} (h4 : m.f0 = 4) : tch q m = hold m.f2.toList m.f3.toList q.toList := by
 unfold tch
 rw [if_neg (fun h => pnt_not4 h h4), if_pos h4]
/-- a piece: it is of the message's kind and number, and touches what the message touches -/
theorem rest_mem {r0 r1 q : ByteArray} {m x : S46} (hx : x ∈ rest r0 r1 m) : x.f0 = m.f0 ∧ x.f1 = m.f1 ∧ x.f4 = m.f4 ∧ x.f5 = m.f5 ∧ (tch q x = true → tch q m = true ∧ inR r0 r1 q = false) := by
 unfold rest at hx
 cases hc : clip r0 r1 m with
 | none =>
  rw [hc] at hx
  obtain rfl := List.mem_singleton.1 hx
  refine ⟨rfl, rfl, rfl, rfl, fun ht => ⟨ht, ?_⟩⟩
  cases hr : inR r0 r1 q with
  | false => rfl
  | true =>
   rw [clip_none hc hr] at ht
   cases ht
 | some y =>
  rw [hc] at hx
  dsimp only at hx
  by_cases h4 : m.f0 = 4
  ·rw [if_pos h4] at hx
   obtain ⟨c1, c2, c3⟩ := clip_clear h4 hc
   obtain ⟨e0, e1, _, _, et⟩ := clip_some (q := q) (by unfold kd; simp [h4]) hc
   rw [tch4 (show y.f0 = 4 by rw [e0, h4]), tch4 h4] at et
   rw [tch4 h4]
   rcases List.mem_append.1 hx with hx | hx
   ·by_cases hb : Op.bytesLess m.f2.toList y.f2.toList = true
    ·rw [if_pos hb] at hx
     obtain rfl := List.mem_singleton.1 hx
     refine ⟨rfl, rfl, rfl, rfl, fun ht => ?_⟩
     rw [tch4 (show (⟨m.f0, m.f1, m.f2, y.f2, m.f4, m.f5⟩ : S46).f0 = 4 from h4)] at ht
     dsimp only at ht
     rw [hold_iff] at ht
     have hy : y.f2.toList ≠ [] := fun e => by rw [e] at hb; exact L_nil_right hb
     have hq : L q.toList y.f2.toList := by
      rcases ht.2 with h | h
      ·exact absurd h hy
      ·exact h
     have h1 : hold m.f2.toList m.f3.toList q.toList = true := by
      rw [hold_iff]
      refine ⟨ht.1, ?_⟩
      rcases c3 with h | ⟨h, h2⟩
      ·exact .inl h
      ·rw [ahd_iff] at c1
       rcases c1 with h3 | h3
       ·exact absurd h3 h
       ·exact .inr (L_of_lt (L_trans hq h3) h2)
     refine ⟨h1, ?_⟩
     rw [h1, Bool.true_and] at et
     rw [← et, ← Bool.not_eq_true, hold_iff]
     exact fun h => h.1 hq
    ·rw [if_neg hb] at hx
     cases hx
   ·by_cases hb : bef y.f3.toList m.f3.toList = true
    ·rw [if_pos hb] at hx
     obtain rfl := List.mem_singleton.1 hx
     refine ⟨rfl, rfl, rfl, rfl, fun ht => ?_⟩
     rw [tch4 (show (⟨m.f0, m.f1, y.f3, m.f3, m.f4, m.f5⟩ : S46).f0 = 4 from h4)] at ht
     dsimp only at ht
     rw [hold_iff] at ht
     rw [bef_iff] at hb
     rw [ahd_iff] at c1
     have hy : L y.f2.toList y.f3.toList := by
      rcases c1 with h3 | h3
      ·exact absurd h3 hb.1
      ·exact h3
     have hqy : ¬ L q.toList y.f2.toList := fun h => ht.1 (L_trans h hy)
     have h1 : hold m.f2.toList m.f3.toList q.toList = true := by
      rw [hold_iff]
      exact ⟨fun h => hqy (L_of_lt h c2), ht.2⟩
     refine ⟨h1, ?_⟩
     rw [h1, Bool.true_and] at et
     rw [← et, ← Bool.not_eq_true, hold_iff]
     rintro ⟨_, h | h⟩
     ·exact hb.1 h
     ·exact ht.1 h
    ·rw [if_neg hb] at hx
     cases hx
  ·rw [if_neg h4] at hx
   cases hx
theorem rest_no {r0 r1 q : ByteArray} (hr : inR r0 r1 q = true) {m x : S46} (hx : x ∈ rest r0 r1 m) : tch q x = false := by
 cases ht : tch q x with
 | false => rfl
 | true =>
  have := ((rest_mem hx).2.2.2.2 ht).2
  rw [hr] at this
  cases this
/-- outside the range the pieces do what the message does; one of them, at most, touches a key -/
theorem rest_on {r0 r1 q : ByteArray} (hr : inR r0 r1 q = false) {m : S46} (hk : kd m = true) (p : ByteArray × Bool) : vl q (rest r0 r1 m) p = on q m p ∧ ((rest r0 r1 m).filter (tch q)).length ≤ 1 := by
 cases htm : tch q m with
 | false =>
  have h0 : (rest r0 r1 m).filter (tch q) = [] := List.filter_eq_nil_iff.2 (fun x hx h => by
   have := ((rest_mem hx).2.2.2.2 h).1
   rw [htm] at this
   cases this)
  refine ⟨?_, by rw [h0]; simp⟩
  rw [← vl_filter, h0, on_not htm]
  rfl
 | true =>
  unfold rest
  cases hc : clip r0 r1 m with
  | none =>
   dsimp only
   refine ⟨rfl, ?_⟩
   exact Nat.le_trans (List.length_filter_le _ _) (by simp)
  | some y =>
   dsimp only
   obtain ⟨e0, e1, _, _, et⟩ := clip_some (q := q) hk hc
   rw [htm, hr] at et
   by_cases h4 : m.f0 = 4
   ·rw [if_pos h4]
    obtain ⟨c1, c2, c3⟩ := clip_clear h4 hc
    rw [tch4 (show y.f0 = 4 by rw [e0, h4])] at et
    have htm2 := htm
    rw [tch4 h4, hold_iff] at htm2
    have et2 : ¬ hold y.f2.toList y.f3.toList q.toList = true := by rw [et]; decide
    rw [hold_iff] at et2
    have hon : ∀ p, on q m p = (⟨#[]⟩, false) := by
     intro p
     unfold on
     rw [if_pos htm, if_neg (by omega), if_neg (by omega)]
    have one : ∀ a b : ByteArray, tch q ⟨m.f0, m.f1, a, b, m.f4, m.f5⟩ = hold a.toList b.toList q.toList := fun a b => tch4 h4
    have onp : ∀ a b : ByteArray, ∀ p, hold a.toList b.toList q.toList = true → on q ⟨m.f0, m.f1, a, b, m.f4, m.f5⟩ p = (⟨#[]⟩, false) := by
     intro a b p h
     unfold on
     rw [if_pos (by rw [one]; exact h), if_neg (show ¬ m.f0 = 1 by omega), if_neg (show ¬ m.f0 = 3 by omega)]
    have onn : ∀ a b : ByteArray, ∀ p, hold a.toList b.toList q.toList = false → on q ⟨m.f0, m.f1, a, b, m.f4, m.f5⟩ p = p := fun a b p h => on_not (by rw [one]; exact h) p
    rw [hon p]
    by_cases hq : L q.toList y.f2.toList
    ·-- in the left piece
     have hl : Op.bytesLess m.f2.toList y.f2.toList = true := L_of_le htm2.1 hq
     have hh : hold m.f2.toList y.f2.toList q.toList = true := hold_iff.2 ⟨htm2.1, .inr hq⟩
     have hh2 : bef y.f3.toList m.f3.toList = true → hold y.f3.toList m.f3.toList q.toList = false := by
      intro hb
      rw [bef_iff] at hb
      rw [ahd_iff] at c1
      rw [← Bool.not_eq_true, hold_iff]
      rintro ⟨h1, _⟩
      rcases c1 with h3 | h3
      ·exact hb.1 h3
      ·exact h1 (L_trans hq h3)
     rw [if_pos hl]
     by_cases hb : bef y.f3.toList m.f3.toList = true
     ·rw [if_pos hb]
      refine ⟨?_, ?_⟩
      ·show on q _ (on q _ p) = _
       rw [onp _ _ p hh, onn _ _ _ (hh2 hb)]
      ·rw [List.filter_append, List.filter_cons, List.filter_cons, one, one, hh, hh2 hb]
       simp
     ·rw [if_neg hb]
      refine ⟨?_, ?_⟩
      ·show on q _ p = _
       rw [onp _ _ p hh]
      ·exact Nat.le_trans (List.length_filter_le _ _) (by simp)
    ·-- in the right piece
     have hyq : y.f3.toList ≠ [] ∧ ¬ L q.toList y.f3.toList := by
      constructor
      ·intro h; exact et2 ⟨hq, .inl h⟩
      ·intro h; exact et2 ⟨hq, .inr h⟩
     have hb : bef y.f3.toList m.f3.toList = true := by
      rw [bef_iff]
      refine ⟨hyq.1, ?_⟩
      rcases htm2.2 with h | h
      ·exact .inl h
      ·exact .inr (L_of_le hyq.2 h)
     have hh : hold y.f3.toList m.f3.toList q.toList = true := hold_iff.2 ⟨hyq.2, htm2.2⟩
     have hh2 : Op.bytesLess m.f2.toList y.f2.toList = true → hold m.f2.toList y.f2.toList q.toList = false := by
      intro hl
      rw [← Bool.not_eq_true, hold_iff]
      rintro ⟨_, h | h⟩
      ·rw [h] at hl; exact L_nil_right hl
      ·exact hq h
     rw [if_pos hb]
     by_cases hl : Op.bytesLess m.f2.toList y.f2.toList = true
     ·rw [if_pos hl]
      refine ⟨?_, ?_⟩
      ·show on q _ (on q _ p) = _
       rw [onn _ _ p (hh2 hl), onp _ _ p hh]
      ·rw [List.filter_append, List.filter_cons, List.filter_cons, one, one, hh, hh2 hl]
       simp
     ·rw [if_neg hl]
      refine ⟨?_, ?_⟩
      ·show on q _ p = _
       rw [onp _ _ p hh]
      ·exact Nat.le_trans (List.length_filter_le _ _) (by simp)
   ·exfalso
    have hp : pnt m = true := by
     unfold pnt
     unfold kd at hk
     simp at hk ⊢
     omega
    unfold clip at hc
    by_cases h1 : (pnt m && (ahd r0.toList r1.toList && hold r0.toList r1.toList m.f2.toList)) = true
    ·rw [Bool.and_eq_true, Bool.and_eq_true] at h1
     unfold tch at htm
     rw [if_pos hp, beq_iff_eq] at htm
     rw [htm] at h1
     unfold inR at hr
     rw [h1.2.1, h1.2.2] at hr
     cases hr
    ·rw [if_neg h1, if_neg (fun h => h4 h.1)] at hc
     cases hc
theorem flat_vl {r0 r1 q : ByteArray} (hr : inR r0 r1 q = false) : ∀ (l : List S46), (∀ m ∈ l, kd m = true) → ∀ p, vl q (l.flatMap (rest r0 r1)) p = vl q l p
 | [], _, p => rfl
 | m :: r, hk, p => by
  rw [List.flatMap_cons, vl_app, (rest_on hr (hk m (List.mem_cons_self ..)) p).1, flat_vl hr r (fun x hx => hk x (List.mem_cons_of_mem _ hx))]
  rfl
/-! ### in a buffer, what touches one key has numbers that rise -/
def nx (a b : S46) : Prop := a.f1 < b.f1 ∨ (a.f1 = b.f1 ∧ (sp a).2.toList ≠ [] ∧ ¬ L b.f2.toList (sp a).2.toList)
theorem own_ahd {m : S46} (h : own m = true) : kd m = true ∧ ahd m.f2.toList (sp m).2.toList = true := by
 unfold own at h
 rw [Bool.and_eq_true] at h
 rw [sp_from h.1] at h
 exact h
theorem nx_of {a b : S46} (ha : own a = true) (hb : own b = true) (h : nxt a b = true) : nx a b := by
 unfold nxt at h
 rw [Bool.and_eq_true] at h
 have h1 : StbSpec.lt a b = true := h.1
 rw [StbSpec.lt_iff] at h1
 rcases h1 with h1 | ⟨h1, h2⟩
 ·exact .inl h1
 ·refine .inr ⟨h1, ?_⟩
  have hm := h.2
  rw [decide_eq_true h1, Bool.true_and] at hm
  obtain ⟨ka, aa⟩ := own_ahd ha
  obtain ⟨kb, ab⟩ := own_ahd hb
  unfold meet at hm
  rw [sp_from ka, sp_from kb] at hm
  by_cases hc : ahd a.f2.toList (sp a).2.toList = true ∧ ahd b.f2.toList (sp b).2.toList = true ∧ ahd (smx a.f2 b.f2).toList (if bef (sp b).2.toList (sp a).2.toList = true then (sp b).2 else (sp a).2).toList = true
  ·rw [if_pos hc] at hm
   cases hm
  ·have hc2 : ¬ ahd b.f2.toList (if bef (sp b).2.toList (sp a).2.toList = true then (sp b).2 else (sp a).2).toList = true := by
    intro h5
    refine hc ⟨aa, ab, ?_⟩
    rw [smx_toList, if_pos h2]
    exact h5
   by_cases hbf : bef (sp b).2.toList (sp a).2.toList = true
   ·rw [if_pos hbf] at hc2
    exact absurd ab hc2
   ·rw [if_neg hbf, ahd_iff] at hc2
    exact ⟨fun h => hc2 (.inl h), fun h => hc2 (.inr h)⟩
theorem nx_trans {a b c : S46} (hb : own b = true) (h1 : nx a b) (h2 : nx b c) : nx a c := by
 rcases h1 with h1 | ⟨h1, h3, h4⟩
 ·rcases h2 with h2 | ⟨h2, _⟩
  ·exact .inl (by omega)
  ·exact .inl (by omega)
 ·rcases h2 with h2 | ⟨h2, h5, h6⟩
  ·exact .inl (by omega)
  ·refine .inr ⟨by omega, h3, fun h7 => ?_⟩
   have hb2 := (own_ahd hb).2
   rw [ahd_iff] at hb2
   rcases hb2 with hb2 | hb2
   ·exact h5 hb2
   ·exact h4 (L_trans (L_of_lt hb2 h6) h7)
theorem rt_nx (l : List S46) (hr : rt l = true) : (∀ m ∈ l, own m = true) ∧ l.Pairwise nx := by
 have hM : ∀ i, (hi : i < l.length) → M l i = l[i] := by
  intro i hi
  unfold M rd_T46
  rw [Int.toNat_natCast, List.getD_eq_getElem?_getD, List.getElem?_eq_getElem hi, Option.getD_some]
 have hown : ∀ i, (hi : i < l.length) → own l[i] = true := by
  intro i hi
  rw [← hM i hi]
  exact rt_own l hr i hi
 refine ⟨fun m hm => ?_, ?_⟩
 ·obtain ⟨i, hi, rfl⟩ := List.mem_iff_getElem.1 hm
  exact hown i hi
 ·rw [List.pairwise_iff_getElem]
  intro i j hi hj hij
  induction j with
  | zero => omega
  | succ j ih =>
   have h1 : nx l[j] l[j + 1] := by
    have h := rt_nxt l hr (j + 1) (by omega) hj
    rw [hM _ (by omega), hM _ hj] at h
    exact nx_of (hown j (by omega)) (hown (j + 1) hj) h
   rcases Nat.lt_or_ge i j with h3 | h3
   ·exact nx_trans (hown j (by omega)) (ih (by omega) h3) h1
   ·obtain rfl : i = j := by omega
    exact h1
theorem tch_sp {q : ByteArray} {m : S46} (hk : kd m = true) (h : tch q m = true) : ¬ L q.toList m.f2.toList ∧ ((sp m).2.toList = [] ∨ L q.toList (sp m).2.toList) := by
 unfold tch at h
 unfold sp
 by_cases hp : pnt m = true
 ·rw [if_pos hp, beq_iff_eq] at h
  rw [if_pos hp, h]
  refine ⟨L_irrefl _, .inr ?_⟩
  dsimp only
  rw [after_toList, h]
  exact L_append_zero _
 ·rw [if_neg hp] at h
  rw [if_neg hp]
  by_cases h4 : m.f0 = 4
  ·rw [if_pos h4, hold_iff] at h
   rw [if_pos h4]
   exact h
  ·rw [if_neg h4] at h
   cases h
theorem nx_seq {q : ByteArray} {a b : S46} (ka : kd a = true) (kb : kd b = true) (h : nx a b) (ha : tch q a = true) (hb : tch q b = true) : a.f1 < b.f1 := by
 rcases h with h | ⟨_, h2, h3⟩
 ·exact h
 ·exfalso
  obtain ⟨_, a2⟩ := tch_sp ka ha
  obtain ⟨b1, _⟩ := tch_sp kb hb
  rcases a2 with a2 | a2
  ·exact h2 a2
  ·exact h3 (L_of_le b1 a2)
theorem flat_Sd {r0 r1 q : ByteArray} (hr : inR r0 r1 q = false) : ∀ (l : List S46), (∀ m ∈ l, kd m = true) → l.Pairwise nx → Sd StbSpec.lt ((l.flatMap (rest r0 r1)).filter (tch q))
 | [], _, _ => Sd.nil
 | m :: r, hk, hp => by
  have hp2 := List.pairwise_cons.1 hp
  have km := hk m (List.mem_cons_self ..)
  rw [List.flatMap_cons, List.filter_append]
  refine Sd.app ?_ (flat_Sd hr r (fun x hx => hk x (List.mem_cons_of_mem _ hx)) hp2.2) ?_
  ·have h1 := (rest_on hr km (⟨#[]⟩, false)).2
   generalize (rest r0 r1 m).filter (tch q) = z at h1
   match z, h1 with
   | [], _ => exact Sd.nil
   | [x], _ => exact Sd.one x
   | x :: y :: t, h1 => simp at h1
  ·intro x hx y hy
   obtain ⟨hx1, hx2⟩ := List.mem_filter.1 hx
   obtain ⟨hy1, hy2⟩ := List.mem_filter.1 hy
   obtain ⟨m', hm', hy3⟩ := List.mem_flatMap.1 hy1
   obtain ⟨_, ex, _, _, tx⟩ := rest_mem (q := q) hx1
   obtain ⟨_, ey, _, _, ty⟩ := rest_mem (q := q) hy3
   have := nx_seq km (hk m' (List.mem_cons_of_mem _ hm')) (hp2.1 m' hm') (tx hx2).1 (ty hy2).1
   rw [← Bool.not_eq_true, StbSpec.lt_iff]
   rintro (h | ⟨h, _⟩) <;> omega
/-- what is left does, outside the range, what the messages do -/
theorem out_vl {r0 r1 q : ByteArray} (hr : inR r0 r1 q = false) (l R : List S46) (hl : rt l = true) (hR : Sd StbSpec.lt R) (hS : St StbSpec.lt R (l.flatMap (rest r0 r1))) (p : ByteArray × Bool) : vl q R p = vl q l p := by
 obtain ⟨ho, hp⟩ := rt_nx l hl
 have hk : ∀ m ∈ l, kd m = true := fun m hm => (own_ahd (ho m hm)).1
 have e : R.filter (tch q) = (l.flatMap (rest r0 r1)).filter (tch q) := by
  refine uniq StbSpec.sw _ _ (List.Pairwise.filter _ hR) (flat_Sd hr l hk hp) (fun c => ?_)
  rw [List.filter_filter, List.filter_filter]
  have h1 : ∀ z : List S46, z.filter (fun a => eqv StbSpec.lt c a && tch q a) = (z.filter (eqv StbSpec.lt c)).filter (tch q) := by
   intro z
   rw [List.filter_filter]
   congr 1
   funext a
   exact Bool.and_comm _ _
  rw [h1, h1, hS c]
 rw [← vl_filter q R, e, vl_filter, flat_vl hr l hk]
theorem out_no {r0 r1 q : ByteArray} (hr : inR r0 r1 q = true) (l R : List S46) (hS : St StbSpec.lt R (l.flatMap (rest r0 r1))) : R.filter (tch q) = [] := by
 refine List.filter_eq_nil_iff.2 (fun x hx h => ?_)
 obtain ⟨m, _, hm⟩ := List.mem_flatMap.1 (St.mem StbSpec.sw hS x hx)
 rw [rest_no hr hm] at h
 cases h
theorem meet_size {a0 a1 b0 b1 : ByteArray} {n : Nat} (h0 : a0.size ≤ n) (h1 : a1.size ≤ n) (h2 : b0.size ≤ n) (h3 : b1.size ≤ n) : (meet a0 a1 b0 b1).1.size ≤ n ∧ (meet a0 a1 b0 b1).2.1.size ≤ n := by
 unfold meet
 by_cases hc : ahd a0.toList a1.toList = true ∧ ahd b0.toList b1.toList = true ∧ ahd (smx a0 b0).toList (if bef b1.toList a1.toList = true then b1 else a1).toList = true
 ·rw [if_pos hc]
  refine ⟨?_, ?_⟩
  ·show (smx a0 b0).size ≤ n
   unfold smx
   split
   ·exact h2
   ·exact h0
  ·show (if bef b1.toList a1.toList = true then b1 else a1).size ≤ n
   split
   ·exact h3
   ·exact h1
 ·rw [if_neg hc]
  exact ⟨Nat.zero_le _, Nat.zero_le _⟩
theorem clip_size {r0 r1 : ByteArray} {m x : S46} {n : Nat} (h2 : m.f2.size ≤ n) (h3 : m.f3.size ≤ n) (h0 : r0.size ≤ n) (h1 : r1.size ≤ n) (hc : clip r0 r1 m = some x) : x.f2.size ≤ n ∧ x.f3.size ≤ n := by
 unfold clip at hc
 split at hc
 ·obtain rfl := Option.some.inj hc
  exact ⟨h2, h3⟩
 ·split at hc
  ·obtain rfl := Option.some.inj hc
   exact meet_size h2 h3 h0 h1
  ·cases hc
theorem rest_size {r0 r1 : ByteArray} {m x : S46} {n : Nat} (h2 : m.f2.size ≤ n) (hs : ∀ y, clip r0 r1 m = some y → y.f2.size ≤ n ∧ y.f3.size ≤ n) (hx : x ∈ rest r0 r1 m) : x.f2.size ≤ n := by
 unfold rest at hx
 cases hc : clip r0 r1 m with
 | none =>
  rw [hc] at hx
  obtain rfl := List.mem_singleton.1 hx
  exact h2
 | some y =>
  rw [hc] at hx
  dsimp only at hx
  obtain ⟨y2, y3⟩ := hs y hc
  split at hx
  ·rcases List.mem_append.1 hx with h | h
   ·split at h
    ·obtain rfl := List.mem_singleton.1 h
     exact (h2 : m.f2.size ≤ n)
    ·cases h
   ·split at h
    ·obtain rfl := List.mem_singleton.1 h
     exact y3
    ·cases h
  ·cases hx
end Go.Proofs.Ytnklnjghecmihaa.BufPart
