/- For all messages and ranges the law BufferTakes answers true: no condition beyond what a Go value of these types can be. -/
import Derived.Test.YtnklnjghecmihaaL2x55
import Derived.Test.YtnklnjghecmihaaL2SBufPartSpec
import Derived.Test.YtnklnjghecmihaaL2SBufRightSpec
set_option linter.unusedVariables false
set_option linter.unusedSimpArgs false
namespace Go.Proofs.Ytnklnjghecmihaa.Pure
open Go.RowKit Go.Proofs.Ytnklnjghecmihaa.L2 Go.Proofs.Ytnklnjghecmihaa.Fh Go.Proofs.Ytnklnjghecmihaa.Lj Go.Proofs.Ytnklnjghecmihaa.ZU Go.Proofs.Ytnklnjghecmihaa.ag8 Go.Proofs.YtnklnjghecmihaaW.aQ Go.Proofs.YtnklnjghecmihaaW.dV Go.Proofs.YtnklnjghecmihaaW.fP Go.Proofs.YtnklnjghecmihaaW.Mine Go.Proofs.YtnklnjghecmihaaW.Ord
theorem alR : dI.f 90 = some true := by decide +kernel
theorem ab7 {k : Nat} (h : 90 ≤ k) : dI.f k = some true := by
 obtain ⟨m, rfl⟩ : ∃ m, k = 90 + m := ⟨k - 90, by omega⟩
 induction m with
 | zero => exact alR
 | succ m ih => exact dI.mono (90 + m) _ (ih (by omega))
theorem alS (a b q : ByteArray) : iZ.f a b q = some (hold a.toList b.toList q.toList) := by
 unfold iZ.f hold vw
 by_cases h : Op.bytesLess q.toList a.toList = true
 ·rw [if_pos h, h]; rfl
 ·rw [if_neg h, Bool.eq_false_iff.2 h]
  by_cases h2 : b.toList = []
  ·rw [if_pos h2, h2]; rfl
  ·rw [if_neg h2]
   have : b.toList.isEmpty = false := by simpa using h2
   rw [this]; rfl
theorem ab8 (a b : ByteArray) : gY.f a b = some (Fz a.toList b.toList) := by
 unfold gY.f Fz
 cases h : a.toList <;> cases h2 : b.toList <;> simp
theorem Xj (r0 r1 : ByteArray) (m : bC) (k : Nat) (hk : 4 ≤ k) : aK.f k m.f0 m.f1 m.f2 m.f3 m.f4 m.f5 r0 r1 = some (Z8 (clip r0 r1 m)) := by
 obtain ⟨k, rfl⟩ : ∃ k2, k = k2 + 2 := ⟨k - 2, by omega⟩
 have hj : aK.j0 (k + 2) false m.f0 m.f1 m.f2 m.f3 m.f4 m.f5 r0 r1 = some (Z8 (if m.f0 = 4 ∧ (meet m.f2 m.f3 r0 r1).2.2 = true then some ⟨m.f0, m.f1, (meet m.f2 m.f3 r0 r1).1, (meet m.f2 m.f3 r0 r1).2.1, m.f4, m.f5⟩ else none)) := by
  rw [aK.j0, if_neg (by decide), WY, Option.bind_some]
  by_cases h4 : m.f0 = 4
  ·rw [if_pos h4]
   by_cases hb : (meet m.f2 m.f3 r0 r1).2.2 = true
   ·rw [if_pos hb, if_pos ⟨h4, hb⟩]
    rfl
   ·rw [if_neg hb, if_neg (fun h => hb h.2)]
    rfl
  ·rw [if_neg h4, if_neg (fun h => h4 h.1)]
   rfl
 unfold aK.f clip
 rw [MV, Option.bind_some]
 cases hp : Ie m with
 | false =>
  rw [if_neg (by decide), hj, Bool.false_and, if_neg (show ¬ (false = true) by decide)]
 | true =>
  rw [if_pos rfl, Vl, Option.bind_some, Bool.true_and]
  cases ha : vw r0.toList r1.toList with
  | false => rw [if_neg (by decide), hj, Bool.false_and, if_neg (show ¬ (false = true) by decide)]
  | true =>
   rw [if_pos rfl, alS, Option.bind_some, Bool.true_and]
   cases hh : hold r0.toList r1.toList m.f2.toList with
   | false => rw [hj, if_neg (show ¬ (false = true) by decide)]
   | true => rw [aK.j0, if_pos rfl, if_pos rfl]; rfl
theorem Vr (r0 r1 : ByteArray) (l : List bC) (hl : l.length < 100000) : ∀ (r acc : List bC) (i k : Nat), l.drop i = r → acc.length + r.length < 200000 → r.length + 5 < k → aX.l0 k l acc (i : Int) r0 r1 = some (acc ++ r.filterMap (clip r0 r1))
 | _, _, _, 0, _, _, h => absurd h (by omega)
 | [], acc, i, k + 1, h, ha, hk => by
  have := wY.drop_nil h
  rw [aX.l0, if_neg (by omega)]
  simp
 | x :: r, acc, i, k + 1, h, ha, hk => by
  obtain ⟨g1, g2, g3⟩ := wY.Ho h
  simp only [List.length_cons] at hk ha
  rw [aX.l0, if_pos (by omega), if_pos (by omega), g2, Xj r0 r1 x k (by omega), Option.bind_some, iY.lG i (by omega), List.filterMap_cons]
  cases hc : clip r0 r1 x with
  | none => rw [if_neg (by simp [Z8]), Vr r0 r1 l hl r acc (i + 1) k g3 (by omega) (by omega)]
  | some y =>
   rw [if_pos (by simp [Z8]), if_pos (by omega)]
   have := Vr r0 r1 l hl r (acc ++ [y]) (i + 1) k g3 (by simp; omega) (by omega)
   dsimp only [Z8]
   rw [iY.eta, this]
   simp
theorem aij (r0 r1 : ByteArray) (m : bC) (hk4 : kd m = true) (k : Nat) (hk : 10 ≤ k) : aU.f k m.f0 m.f1 m.f2 m.f3 m.f4 m.f5 r0 r1 = some (rest r0 r1 m) := by
 unfold kd at hk4
 simp at hk4
 unfold aU.f
 rw [Xj r0 r1 m _ (by omega), Option.bind_some]
 unfold rest
 cases hc : clip r0 r1 m with
 | none =>
  rw [if_neg (by simp [Z8]), if_pos hk4]
 | some x =>
  rw [if_pos (by simp [Z8])]
  by_cases h4 : m.f0 = 4
  ·have ht2 : (Z8 (some x)).2.2.1 = x.f2 := rfl
   have ht3 : (Z8 (some x)).2.2.2.1 = x.f3 := rfl
   rw [if_pos h4, ht2, ht3, ab8, Option.bind_some]
   show _ = some (if m.f0 = 4 then _ else _)
   rw [if_pos h4]
  ·rw [if_neg h4]
   show _ = some (if m.f0 = 4 then _ else _)
   rw [if_neg h4]
theorem Xk (r0 r1 : ByteArray) (l : List bC) (hl : l.length < 1000) (hk : ∀ m ∈ l, kd m = true) : ∀ (r acc : List bC) (i : Nat), l.drop i = r → Sd iY.lt acc → acc.length + 2 * r.length < 5000 → ∃ R, Sd iY.lt R ∧ St iY.lt R (acc ++ r.flatMap (rest r0 r1)) ∧ Ev fun k => aT.l0 k l acc (i : Int) r0 r1 = some R
 | [], acc, i, h, hs, ha => by
  have := wY.drop_nil h
  refine ⟨acc, hs, by rw [List.flatMap_nil, List.append_nil]; exact St.refl _, ?_⟩
  refine Ev.step (Ev.all True trivial) fun k _ => ?_
  rw [aT.l0, if_neg (by omega)]
 | x :: r, acc, i, h, hs, ha => by
  obtain ⟨g1, g2, g3⟩ := wY.Ho h
  simp only [List.length_cons] at ha
  have hx : x ∈ l := List.mem_of_mem_drop (by rw [h]; exact List.mem_cons_self ..)
  have hlen := Vp r0 r1 x
  obtain ⟨R1, a1, a2, a3, a4⟩ := wY.Vk acc (rest r0 r1 x) (by omega) (by omega)
  obtain ⟨R, b1, b2, b4⟩ := Xk r0 r1 l hl hk r R1 (i + 1) g3 a1 (by omega)
  refine ⟨R, b1, ?_, ?_⟩
  ·refine b2.trans ?_
   rw [List.flatMap_cons, ← List.append_assoc]
   exact a2.app (St.refl _)
  ·refine ((a4.and b4).and (Ev.of 10 fun k hk => hk)).step fun k ⟨⟨hk1, hk2⟩, hk3⟩ => ?_
   rw [aT.l0, if_pos (by omega), if_pos (by omega), g2, aij r0 r1 x (hk x hx) k hk3, Option.bind_some, hk1, Option.bind_some, iY.lG i (by omega)]
   exact hk2
/-! ### both are buffers -/
theorem ahf (l : List bC) : ∀ (d i : Nat), (∀ j, i ≤ j → j < i + d → ok l j = true) → rl l d i = true
 | 0, _, _ => rfl
 | d + 1, i, h => by
  rw [rl, h i (Nat.le_refl _) (by omega), Bool.true_and]
  exact ahf l d (i + 1) (fun j h1 h2 => h j (by omega) (by omega))
theorem awH {a b : bC} (ha : own a = true) (hb : own b = true) (h : nx a b) : nxt a b = true := by
 obtain ⟨ka, aa⟩ := tY ha
 obtain ⟨kb, ab⟩ := tY hb
 unfold nxt
 rcases h with h | ⟨h1, h2, h3⟩
 ·have hl : ahe a b = true := (iY.lt_iff (a := a) (b := b)).2 (.inl h)
  have hne : decide (a.f1 = b.f1) = false := decide_eq_false (by omega)
  rw [hl, hne]
  rfl
 ·rw [sO] at aa ab
  have haL : L a.f2.toList (sp a).2.toList := by
   rcases aa with h | h
   ·exact absurd h h2
   ·exact h
  have hlt : L a.f2.toList b.f2.toList := Di haL h3
  have hl : ahe a b = true := (iY.lt_iff (a := a) (b := b)).2 (.inr ⟨h1, hlt⟩)
  have hm : (meet (sp a).1 (sp a).2 (sp b).1 (sp b).2).2.2 = false := by
   unfold meet
   rw [Lm ka, Lm kb]
   by_cases hc : vw a.f2.toList (sp a).2.toList = true ∧ vw b.f2.toList (sp b).2.toList = true ∧ vw (Ey a.f2 b.f2).toList (if Fz (sp b).2.toList (sp a).2.toList = true then (sp b).2 else (sp a).2).toList = true
   ·exfalso
    have h5 := hc.2.2
    rw [Hg, if_pos hlt] at h5
    by_cases hbf : Fz (sp b).2.toList (sp a).2.toList = true
    ·rw [BX] at hbf
     rcases ab with h6 | h6
     ·exact hbf.1 h6
     ·rcases hbf.2 with h7 | h7
      ·exact h2 h7
      ·exact h3 (rM h6 h7)
    ·rw [if_neg hbf, sO] at h5
     rcases h5 with h6 | h6
     ·exact h2 h6
     ·exact h3 h6
   ·rw [if_neg hc]
  rw [hl, hm, Bool.and_false]
  rfl
theorem atb (l : List bC) (ho : ∀ m ∈ l, own m = true) (hp : l.Pairwise nx) : rt l = true := by
 have hM : ∀ i, (hi : i < l.length) → M l i = l[i] := by
  intro i hi
  unfold M aj
  rw [Int.toNat_natCast, List.getD_eq_getElem?_getD, List.getElem?_eq_getElem hi, Option.getD_some]
 unfold rt
 refine ahf l l.length 0 (fun j _ hj => ?_)
 rw [Nat.zero_add] at hj
 unfold ok
 rw [hM j hj, ho _ (List.getElem_mem _), Bool.true_and]
 rcases Nat.eq_zero_or_pos j with h0 | h0
 ·subst h0; rfl
 ·rw [hM (j - 1) (by omega), awH (ho _ (List.getElem_mem _)) (ho _ (List.getElem_mem _)) (List.pairwise_iff_getElem.1 hp (j - 1) j (by omega) hj (by omega)), Bool.or_true]
theorem sp4 {m : bC} (h4 : m.f0 = 4) : sp m = (m.f2, m.f3) := by
 unfold sp
 rw [if_neg (fun h => Fp h h4), if_pos h4]
theorem own4 {m : bC} (h4 : m.f0 = 4) (h : vw m.f2.toList m.f3.toList = true) : own m = true := by
 unfold own
 rw [sp4 h4, h]
 unfold kd
 rw [h4]
 rfl
theorem MX {r0 r1 : ByteArray} {m x : bC} (hk : kd m = true) (h : clip r0 r1 m = some x) : x = m ∨ (m.f0 = 4 ∧ x.f0 = 4) := by
 by_cases h4 : m.f0 = 4
 ·exact .inr ⟨h4, by rw [(yw (q := ⟨#[]⟩) hk h).1, h4]⟩
 ·unfold clip at h
  split at h
  ·exact .inl (Option.some.inj h).symm
  ·split at h
   ·rename_i h5
    exact absurd h5.1 h4
   ·cases h
theorem alT {r0 r1 : ByteArray} {m x : bC} (ho : own m = true) (h : clip r0 r1 m = some x) : own x = true := by
 rcases MX (tY ho).1 h with rfl | ⟨h4, h5⟩
 ·exact ho
 ·exact own4 h5 (CW h4 h).1
theorem aqp {r0 r1 : ByteArray} {a b x y : bC} (ha : own a = true) (hb : own b = true) (h : nx a b) (hx : clip r0 r1 a = some x) (hy : clip r0 r1 b = some y) : nx x y := by
 have ka := (tY ha).1
 have kb := (tY hb).1
 have ex := (yw (q := ⟨#[]⟩) ka hx).2.1
 have ey := (yw (q := ⟨#[]⟩) kb hy).2.1
 have hyb : ¬ L y.f2.toList b.f2.toList := by
  rcases MX kb hy with rfl | ⟨h4, h5⟩
  ·exact uD _
  ·exact (CW h4 hy).2.1
 rcases h with h | ⟨h1, h2, h3⟩
 ·exact .inl (by omega)
 ·refine .inr ⟨by omega, ?_⟩
  have hya : ¬ L y.f2.toList (sp a).2.toList := fun h => h3 (Nb hyb h)
  rcases MX ka hx with rfl | ⟨h4, h5⟩
  ·exact ⟨h2, hya⟩
  ·rw [sp4 h4] at h2 hya
   rw [sp4 h5]
   rcases (CW h4 hx).2.2 with h6 | ⟨h6, h7⟩
   ·exact absurd h6 h2
   ·exact ⟨h6, fun h => hya (Di h h7)⟩
theorem atc (r0 r1 : ByteArray) : ∀ (l : List bC), (∀ m ∈ l, own m = true) → l.Pairwise nx → (∀ x ∈ l.filterMap (clip r0 r1), own x = true) ∧ (l.filterMap (clip r0 r1)).Pairwise nx
 | [], _, _ => ⟨by simp, List.Pairwise.nil⟩
 | m :: r, ho, hp => by
  have hp2 := List.pairwise_cons.1 hp
  obtain ⟨i1, i2⟩ := atc r0 r1 r (fun x hx => ho x (List.mem_cons_of_mem _ hx)) hp2.2
  rw [List.filterMap_cons]
  cases hc : clip r0 r1 m with
  | none => exact ⟨i1, i2⟩
  | some x =>
   dsimp only
   refine ⟨fun z hz => ?_, List.pairwise_cons.2 ⟨fun y hy => ?_, i2⟩⟩
   ·rcases List.mem_cons.1 hz with rfl | hz
    ·exact alT (ho m (List.mem_cons_self ..)) hc
    ·exact i1 z hz
   ·obtain ⟨m', hm', hc'⟩ := List.mem_filterMap.1 hy
    exact aqp (ho m (List.mem_cons_self ..)) (ho m' (List.mem_cons_of_mem _ hm')) (hp2.1 m' hm') hc hc'
theorem alU {r0 r1 : ByteArray} {m x : bC} (ho : own m = true) (hx : x ∈ rest r0 r1 m) : own x = true := by
 unfold rest at hx
 cases hc : clip r0 r1 m with
 | none =>
  rw [hc] at hx
  obtain rfl := List.mem_singleton.1 hx
  exact ho
 | some y =>
  rw [hc] at hx
  dsimp only at hx
  by_cases h4 : m.f0 = 4
  ·rw [if_pos h4] at hx
   rcases List.mem_append.1 hx with h | h
   ·by_cases hb : Op.bytesLess m.f2.toList y.f2.toList = true
    ·rw [if_pos hb] at h
     obtain rfl := List.mem_singleton.1 h
     exact own4 h4 (sO.2 (.inr hb))
    ·rw [if_neg hb] at h
     cases h
   ·by_cases hb : Fz y.f3.toList m.f3.toList = true
    ·rw [if_pos hb] at h
     obtain rfl := List.mem_singleton.1 h
     rw [BX] at hb
     exact own4 h4 (sO.2 hb.2)
    ·rw [if_neg hb] at h
     cases h
  ·rw [if_neg h4] at hx
   cases hx
/-- two messages that have no key in common, or other numbers -/
def dj (a b : bC) : Prop := a.f1 ≠ b.f1 ∨ ∀ q, ¬ (zN q a = true ∧ zN q b = true)
theorem aqr {a b : bC} (h : dj a b) : dj b a := by
 rcases h with h | h
 ·exact .inl (fun e => h e.symm)
 ·exact .inr (fun q hq => h q ⟨hq.2, hq.1⟩)
theorem O_ : ∀ (z : List bC), (∀ q, (z.filter (zN q)).length ≤ 1) → z.Pairwise dj
 | [], _ => List.Pairwise.nil
 | x :: t, h => by
  refine List.pairwise_cons.2 ⟨fun y hy => .inr (fun q hq => ?_), O_ t (fun q => ?_)⟩
  ·have h1 := h q
   rw [List.filter_cons, if_pos hq.1, List.length_cons] at h1
   have h2 : y ∈ t.filter (zN q) := List.mem_filter.2 ⟨hy, hq.2⟩
   have := List.length_pos_of_mem h2
   omega
  ·have h1 := h q
   rw [List.filter_cons] at h1
   split at h1
   ·rw [List.length_cons] at h1
    omega
   ·exact h1
theorem aqs (r0 r1 : ByteArray) {m : bC} (hk : kd m = true) : (rest r0 r1 m).Pairwise dj := by
 refine O_ _ (fun q => ?_)
 cases hr : inR r0 r1 q with
 | false => exact (ZX hr hk (⟨#[]⟩, false)).2
 | true =>
  rw [List.filter_eq_nil_iff.2 (fun x hx h => by rw [ag9 hr hx] at h; cases h)]
  simp
theorem ahg (r0 r1 : ByteArray) : ∀ (l : List bC), (∀ m ∈ l, kd m = true) → l.Pairwise nx → (l.flatMap (rest r0 r1)).Pairwise dj
 | [], _, _ => List.Pairwise.nil
 | m :: r, hk, hp => by
  have hp2 := List.pairwise_cons.1 hp
  have km := hk m (List.mem_cons_self ..)
  rw [List.flatMap_cons, List.pairwise_append]
  refine ⟨aqs r0 r1 km, ahg r0 r1 r (fun x hx => hk x (List.mem_cons_of_mem _ hx)) hp2.2, fun x hx y hy => ?_⟩
  obtain ⟨m', hm', hy2⟩ := List.mem_flatMap.1 hy
  by_cases he : x.f1 = y.f1
  ·refine .inr (fun q hq => ?_)
   obtain ⟨_, ex, _, _, tx⟩ := Fv (q := q) hx
   obtain ⟨_, ey, _, _, ty⟩ := Fv (q := q) hy2
   have := alO km (hk m' (List.mem_cons_of_mem _ hm')) (hp2.1 m' hm') (tx hq.1).1 (ty hq.2).1
   omega
  ·exact .inl he
theorem alV {r : bC → bC → Prop} (hs : ∀ {a b}, r a b → r b a) : ∀ {l : List bC}, l.Pairwise r → ∀ {a b : bC}, a ∈ l → b ∈ l → a ≠ b → r a b
 | x :: t, h, a, b, ha, hb, hne => by
  have h2 := List.pairwise_cons.1 h
  rcases List.mem_cons.1 ha with e1 | ha1
  ·rcases List.mem_cons.1 hb with e2 | hb1
   ·exact absurd (e1.trans e2.symm) hne
   ·rw [e1]; exact h2.1 b hb1
  ·rcases List.mem_cons.1 hb with e2 | hb1
   ·rw [e2]; exact hs (h2.1 a ha1)
   ·exact alV hs h2.2 ha1 hb1 hne
theorem ab9 : ∀ (R : List bC), (∀ c, (R.filter (eqv iY.lt c)).Pairwise dj) → R.Pairwise (fun a b => eqv iY.lt a b = true → dj a b)
 | [], _ => List.Pairwise.nil
 | x :: t, h => by
  refine List.pairwise_cons.2 ⟨fun y hy he => ?_, ab9 t (fun c => ?_)⟩
  ·have h1 := h x
   rw [List.filter_cons, if_pos (O9 iY.sw x)] at h1
   exact (List.pairwise_cons.1 h1).1 y (List.mem_filter.2 ⟨hy, he⟩)
  ·have h1 := h c
   rw [List.filter_cons] at h1
   split at h1
   ·exact (List.pairwise_cons.1 h1).2
   ·exact h1
theorem aqt {m : bC} (ho : own m = true) : zN m.f2 m = true := by
 obtain ⟨hk, ha⟩ := tY ho
 unfold zN
 by_cases hp : Ie m = true
 ·rw [if_pos hp]
  simp
 ·rw [if_neg hp]
  by_cases h4 : m.f0 = 4
  ·rw [if_pos h4, lY]
   rw [sp4 h4] at ha
   exact ⟨uD _, sO.1 ha⟩
  ·exfalso
   unfold kd at hk
   unfold Ie at hp
   simp at hk hp
   omega
theorem awI {q : ByteArray} {m : bC} (hk : kd m = true) (h1 : ¬ L q.toList m.f2.toList) (h2 : (sp m).2.toList = [] ∨ L q.toList (sp m).2.toList) : zN q m = true := by
 unfold zN
 unfold sp at h2
 by_cases hp : Ie m = true
 ·rw [if_pos hp] at h2
  dsimp only at h2
  rw [Hf] at h2
  rw [if_pos hp, beq_iff_eq]
  rcases h2 with h2 | h2
  ·simp at h2
  ·exact ahm (aiu.1 h2) h1
 ·rw [if_neg hp] at h2
  rw [if_neg hp]
  by_cases h4 : m.f0 = 4
  ·rw [if_pos h4] at h2
   rw [if_pos h4, lY]
   exact ⟨h1, h2⟩
  ·exfalso
   unfold kd at hk
   unfold Ie at hp
   simp at hk hp
   omega
theorem awJ (r0 r1 : ByteArray) (l R : List bC) (ho : ∀ m ∈ l, own m = true) (hp : l.Pairwise nx) (hR : Sd iY.lt R) (hS : St iY.lt R (l.flatMap (rest r0 r1))) : (∀ x ∈ R, own x = true) ∧ R.Pairwise nx := by
 have hk : ∀ m ∈ l, kd m = true := fun m hm => (tY (ho m hm)).1
 have hoR : ∀ x ∈ R, own x = true := by
  intro x hx
  obtain ⟨m, hm, hx2⟩ := List.mem_flatMap.1 (St.mem iY.sw hS x hx)
  exact alU (ho m hm) hx2
 have hfd := ahg r0 r1 l hk hp
 have h1 : R.Pairwise (fun a b => eqv iY.lt a b = true → dj a b) := ab9 R (fun c => by
  rw [hS c]
  exact List.Pairwise.filter _ hfd)
 have h2 : R.Pairwise dj := List.Pairwise.imp_of_mem (fun {a b} ha hb hab => by
  cases he : eqv iY.lt a b with
  | true => exact hab he
  | false =>
   refine alV aqr hfd (St.mem iY.sw hS a ha) (St.mem iY.sw hS b hb) ?_
   rintro rfl
   rw [O9 iY.sw] at he
   cases he) h1
 refine ⟨hoR, List.Pairwise.imp_of_mem (fun {a b} ha hb hab => ?_) (hR.and h2)⟩
 obtain ⟨hlt, hdj⟩ := hab
 rw [← Bool.not_eq_true, iY.lt_iff] at hlt
 by_cases he : a.f1 = b.f1
 ·have hkey : ¬ L b.f2.toList a.f2.toList := fun h => hlt (.inr ⟨he.symm, h⟩)
  refine .inr ⟨he, ?_⟩
  have hd : ¬ ((sp a).2.toList = [] ∨ L b.f2.toList (sp a).2.toList) := by
   intro h
   rcases hdj with h3 | h3
   ·exact h3 he
   ·exact h3 b.f2 ⟨awI (tY (hoR a ha)).1 hkey h, aqt (hoR b hb)⟩
  exact ⟨fun h => hd (.inl h), fun h => hd (.inr h)⟩
 ·rcases Int.lt_or_gt_of_ne he with h | h
  ·exact .inl h
  ·exact absurd (.inl h) hlt
theorem BufferTakes : eP.Pure := by
 intro l r hl0 hr0
 have hm : 0 ≤ mn (l.length : Int) 30 ∧ mn (l.length : Int) 30 ≤ (l.length : Int) ∧ mn (l.length : Int) 30 ≤ 30 := by
  unfold mn
  split <;> omega
 obtain ⟨n, hn⟩ : ∃ n, mn (l.length : Int) 30 = n := ⟨_, rfl⟩
 rw [hn] at hm
 obtain ⟨p, hp⟩ : ∃ p, l.take n.toNat = p := ⟨_, rfl⟩
 have hlp : p.length ≤ 30 := by rw [← hp, List.length_take]; omega
 have hmem : ∀ m ∈ p, m ∈ l := fun m h => by rw [← hp] at h; exact List.mem_of_mem_take h
 have hsz : ∀ m ∈ p, m.f2.size ≤ 140737488351232 ∧ m.f3.size ≤ 140737488351232 := fun m h => ⟨(hl0.2.2 m (hmem m h)).2.2.1, (hl0.2.2 m (hmem m h)).2.2.2.1⟩
 have hf : ∀ m ∈ p, fits m := by
  intro m h
  have := (hsz m h).1
  unfold fits
  omega
 have ZY : ∀ z : List bC, (∀ m ∈ z, fits m) → Fits z := by
  intro z hz i hi
  unfold M aj
  rw [Int.toNat_natCast, List.getD_eq_getElem?_getD, List.getElem?_eq_getElem hi, Option.getD_some]
  exact hz _ (List.getElem_mem _)
 cases hrt : rt p with
 | false =>
  refine ⟨1000, ?_⟩
  unfold eP.f
  rw [hn, if_pos hm.1, if_pos hm.2.1, hp, Option.bind_some, abY p (by omega) (ZY p hf) _ (by omega), hrt, Option.bind_some, if_neg (by decide), ab7 (by omega)]
  rfl
 | true =>
  obtain ⟨ho, hpw⟩ := ata p hrt
  have hk : ∀ m ∈ p, kd m = true := fun m hm => (tY (ho m hm)).1
  obtain ⟨R, a1, a2, a3, K, a4⟩ := awF r.f0 r.f1 p (by omega) hk hf
  obtain ⟨R2, b1, b2, K2, b3⟩ := Xk r.f0 r.f1 p (by omega) hk p [] 0 (List.drop_zero ..) Sd.nil (by simp; omega)
  rw [List.nil_append] at b2
  obtain rfl : R = R2 := uniq iY.sw _ _ a1 b1 (a2.trans b2.symm)
  have aQ0 : (p.filterMap (clip r.f0 r.f1)).length ≤ 30 := Nat.le_trans (List.length_filterMap_le _ _) hlp
  obtain ⟨oI, wI⟩ := atc r.f0 r.f1 p ho hpw
  obtain ⟨oR, wR⟩ := awJ r.f0 r.f1 p R ho hpw a1 a2
  have szc : ∀ m ∈ p, ∀ x, clip r.f0 r.f1 m = some x → x.f2.size ≤ 140737488351232 ∧ x.f3.size ≤ 140737488351232 := fun m hm x hc => aif (hsz m hm).1 (hsz m hm).2 hr0.1 hr0.2 hc
  have fI : ∀ m ∈ p.filterMap (clip r.f0 r.f1), fits m := by
   intro x hx
   obtain ⟨m, hm, hc⟩ := List.mem_filterMap.1 hx
   have := (szc m hm x hc).1
   unfold fits
   omega
  have fR : ∀ m ∈ R, fits m := by
   intro x hx
   obtain ⟨m, hm, hx2⟩ := List.mem_flatMap.1 (St.mem iY.sw a2 x hx)
   have := aii (hsz m hm).1 (szc m hm) hx2
   unfold fits
   omega
  have aMW : aX.f (K + K2 + 1000) p r.f0 r.f1 = some (p.filterMap (clip r.f0 r.f1)) := by
   have := Vr r.f0 r.f1 p (by omega) p [] 0 (K + K2 + 1000) (List.drop_zero ..) (by simp; omega) (by omega)
   unfold aX.f
   simpa using this
  have hrest : aT.f (K + K2 + 1000) p r.f0 r.f1 = some R := by
   unfold aT.f
   exact b3 _ (by omega)
  refine ⟨K + K2 + 1000, ?_⟩
  unfold eP.f jA.f
  rw [hn, if_pos hm.1, if_pos hm.2.1, hp, Option.bind_some, abY p (by omega) (ZY p hf) _ (by omega), hrt, Option.bind_some, if_pos rfl, a4 _ (by omega), Option.bind_some, aMW, Option.bind_some, ab7 (by omega), Option.bind_some, if_pos rfl]
  dsimp only
  rw [wY.adx _ (by omega) _ (by omega), Option.bind_some, if_pos rfl, Option.bind_some, Option.bind_some]
  dsimp only
  rw [wY.adx _ (by omega) _ (by omega), Option.bind_some, if_pos rfl, hrest, Option.bind_some, wY.adx R (by omega) _ (by omega), Option.bind_some, if_pos rfl]
  rw [Vq.ahc _ (by omega) (ZY _ fI) _ (by omega), atb _ oI wI, Option.bind_some, if_pos rfl, Vq.ahc R (by omega) (ZY _ fR) _ (by omega), atb _ oR wR, Option.bind_some]
end Go.Proofs.Ytnklnjghecmihaa.Pure
