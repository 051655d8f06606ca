/- For all entries, an entry, a range and a message the law BlockDoes answers true: no condition beyond what a Go value of these types can be. -/
import Derived.Test.YtnklnjghecmihaaH4x69
import Derived.Test.YtnklnjghecmihaaH4SBlkSpec
set_option linter.unusedVariables false
set_option linter.unusedSimpArgs false
namespace Go.Proofs.Ytnklnjghecmihaa.Pure
open Go.RowKit Go.Proofs.Ytnklnjghecmihaa.H4 Go.Proofs.Ytnklnjghecmihaa.WordSpec Go.Proofs.Ytnklnjghecmihaa.BlkSpec Go.Proofs.YtnklnjghecmihaaW.PrintWords Go.Proofs.YtnklnjghecmihaaW.PrintLast Go.Proofs.YtnklnjghecmihaaW.PrintMore Go.Proofs.YtnklnjghecmihaaW.Mine Go.Proofs.YtnklnjghecmihaaW.Ord
theorem hlive_90 : catchmentlaw10_live.f 90 = some true := by decide +kernel
theorem hlive_ge {k : Nat} (h : 90 ≤ k) : catchmentlaw10_live.f k = some true := by
  obtain ⟨m, rfl⟩ : ∃ m, k = 90 + m := ⟨k - 90, by omega⟩
  induction m with
  | zero => exact hlive_90
  | succ m ih => exact catchmentlaw10_live.mono (90 + m) _ (ih (by omega))
/-- do entries rise? the document's answer tells whether they are sorted -/
theorem rises_loop {l : List S25} (hl : l.length < 400000) : ∀ (d i k : Nat), d = l.length - i → 1 ≤ i → d < k → ∃ b, catchmentref05_Rises.l0 k l (i : Int) = some b ∧ (b = true → ∀ j, i ≤ j → (h : j < l.length) → L (key l[j - 1]) (key l[j]))
  | d, i, 0, _, _, h => absurd h (by omega)
  | d, i, k + 1, hd, hi, hk => by
    by_cases h : i < l.length
    · rw [catchmentref05_Rises.l0, if_pos (by omega), pred_nat i (by omega) (by omega), if_pos (by omega), if_pos (by omega), if_pos (by omega), succ_nat i (by omega), rd_get l i h, rd_get l (i - 1) (by omega)]
      by_cases hb : Op.bytesLess (l[i - 1]).f0.toList (l[i]).f0.toList = true
      · rw [if_pos hb]
        obtain ⟨b, h1, h2⟩ := rises_loop hl (d - 1) (i + 1) k (by omega) (by omega) (by omega)
        refine ⟨b, h1, fun hbt j hj hjl => ?_⟩
        rcases Nat.lt_or_ge i j with h3 | h3
        · exact h2 hbt j h3 hjl
        · obtain rfl : j = i := by omega
          exact hb
      · rw [if_neg hb]
        exact ⟨false, rfl, fun h => by cases h⟩
    · rw [catchmentref05_Rises.l0, if_neg (by omega)]
      exact ⟨true, rfl, fun _ j hj hjl => by omega⟩
theorem srt_of {l : List S25} (h : ∀ j, 1 ≤ j → (h : j < l.length) → L (key l[j - 1]) (key l[j])) : Srt l := by
  unfold Srt
  rw [List.pairwise_iff_getElem]
  intro i j hi hj hij
  induction j with
  | zero => omega
  | succ j ih =>
    have h1 := h (j + 1) (by omega) hj
    rcases Nat.lt_or_ge i j with h3 | h3
    · exact L_trans (ih (by omega) h3) h1
    · obtain rfl : i = j := by omega
      exact h1
theorem same_loop (l : List S25) (hl : l.length < 400000) : ∀ (d i k : Nat), d = l.length - i → i ≤ l.length → d < k → catchmentref05_Same.l0 k l l (i : Int) = some true
  | d, i, 0, _, _, h => absurd h (by omega)
  | 0, i, k + 1, hd, hi, hk => by rw [catchmentref05_Same.l0, if_neg (by omega)]
  | d + 1, i, k + 1, hd, hi, hk => by
    rw [catchmentref05_Same.l0, if_pos (by omega), if_pos (by omega), if_pos (by omega), if_neg (by simp), succ_nat i (by omega)]
    exact same_loop l hl d (i + 1) k (by omega) (by omega) (by omega)
theorem same_f (l : List S25) (hl : l.length < 400000) (k : Nat) (hk : l.length < k) : catchmentref05_Same.f k l l = some true := by
  unfold catchmentref05_Same.f
  rw [if_pos rfl]
  exact same_loop l hl l.length 0 k (by omega) (by omega) hk
theorem refPlace_loop {l : List S25} (hl : l.length < 400000) (s : ByteArray) : ∀ (r : List S25) (i k n : Nat) (is : Bool), l.drop i = r → r.length < k → n + r.length < 900000 → catchmentref10_Place.l0 k l s (n : Int) is (i : Int) = some (((n + (r.filter fun e => Op.bytesLess (key e) s.toList).length : Nat) : Int), is || r.any fun e => key e == s.toList)
  | _, _, 0, _, _, _, h, _ => absurd h (by omega)
  | [], i, k + 1, n, is, h, hk, hn => by
    have := drop_nil h
    rw [catchmentref10_Place.l0, if_neg (by omega)]
    simp
  | x :: r, i, k + 1, n, is, h, hk, hn => by
    obtain ⟨h1, h2, h3⟩ := rd_drop h
    simp only [List.length_cons] at hk hn
    rw [catchmentref10_Place.l0, if_pos (by omega), if_pos (by omega), h2, succ_nat i (by omega), succ_nat n (by omega), List.filter_cons, List.any_cons]
    by_cases hb : Op.bytesLess x.f0.toList s.toList = true
    · rw [if_pos hb, if_pos (show Op.bytesLess (key x) s.toList = true from hb), List.length_cons]
      cases is with
      | true => rw [if_pos rfl, refPlace_loop hl s r (i + 1) k (n + 1) true h3 (by omega) (by omega), Bool.true_or, Bool.true_or, show n + 1 + (r.filter fun e => Op.bytesLess (key e) s.toList).length = n + ((r.filter fun e => Op.bytesLess (key e) s.toList).length + 1) by omega]
      | false => rw [if_neg (by decide), refPlace_loop hl s r (i + 1) k (n + 1) _ h3 (by omega) (by omega), Bool.false_or, show n + 1 + (r.filter fun e => Op.bytesLess (key e) s.toList).length = n + ((r.filter fun e => Op.bytesLess (key e) s.toList).length + 1) by omega]; rfl
    · rw [if_neg hb, if_neg (show ¬ Op.bytesLess (key x) s.toList = true from hb)]
      cases is with
      | true => rw [if_pos rfl, refPlace_loop hl s r (i + 1) k n true h3 (by omega) (by omega), Bool.true_or, Bool.true_or]
      | false => rw [if_neg (by decide), refPlace_loop hl s r (i + 1) k n _ h3 (by omega) (by omega), Bool.false_or]; rfl
theorem refPlace_f {l lo hi : List S25} {s : ByteArray} {o : Option ByteArray} (P : Parts l s lo o hi) (hl : l.length < 400000) (k : Nat) (hk : l.length < k) : catchmentref10_Place.f k l s = some ((lo.length : Int), o.isSome) := by
  unfold catchmentref10_Place.f
  have h := refPlace_loop hl s l 0 k 0 false (List.drop_zero ..) hk (by omega)
  have hlo : (lo.filter fun e => Op.bytesLess (key e) s.toList) = lo := List.filter_eq_self.2 P.lt
  have hhi : (hi.filter fun e => Op.bytesLess (key e) s.toList) = [] := List.filter_eq_nil_iff.2 (fun x hx => L_asymm (P.gt x hx))
  have hmd : ((md s o).filter fun e => Op.bytesLess (key e) s.toList) = [] := List.filter_eq_nil_iff.2 (fun x hx => by
    cases o with
    | none => simp [md] at hx
    | some v =>
      simp [md] at hx
      rw [hx]
      exact L_irrefl _)
  have alo : (lo.any fun e => key e == s.toList) = false := List.any_eq_false.2 (fun x hx => by
    intro he
    have := P.lt x hx
    rw [beq_iff_eq.1 he] at this
    exact L_irrefl _ this)
  have ahi : (hi.any fun e => key e == s.toList) = false := List.any_eq_false.2 (fun x hx => by
    intro he
    have := P.gt x hx
    rw [beq_iff_eq.1 he] at this
    exact L_irrefl _ this)
  have amd : ((md s o).any fun e => key e == s.toList) = o.isSome := by
    cases o with
    | none => rfl
    | some v => simp [md, key]
  have h2 : catchmentref10_Place.l0 k l s 0 false 0 = _ := h
  rw [h2, P.eq, List.filter_append, List.filter_append, hlo, hhi, hmd, List.any_append, List.any_append, alo, ahi, amd]
  simp
/-! ### Cut -/
theorem rr_f (a b : ByteArray) : key_RightRange.f a b = some (b.toList.isEmpty || Op.bytesLess a.toList b.toList) := by
  unfold key_RightRange.f key_ahead.f
  by_cases h : b.toList = []
  · rw [if_pos h, Option.bind_some, h]; rfl
  · rw [if_neg h, Option.bind_some]
    have : b.toList.isEmpty = false := by simpa using h
    rw [this]; rfl
theorem parts_take {l lo hi : List S25} {s : ByteArray} {o : Option ByteArray} (P : Parts l s lo o hi) : ∀ x ∈ l.take lo.length, L (key x) s.toList := by
  rw [P.eq, List.append_assoc, List.take_left' rfl]
  exact P.lt
theorem parts_drop {l lo hi : List S25} {s : ByteArray} {o : Option ByteArray} (P : Parts l s lo o hi) : ∀ x ∈ l.drop lo.length, ¬ L (key x) s.toList := by
  rw [P.eq, List.append_assoc, List.drop_left' rfl]
  intro x hx
  rcases List.mem_append.1 hx with h | h
  · cases o with
    | none => simp [md] at h
    | some v =>
      simp [md] at h
      rw [h]
      exact L_irrefl _
  · exact L_asymm (P.gt x h)
theorem cut_filter {l : List S25} {a b : List UInt8} {p q : Nat} (hpq : p ≤ q) (h1 : ∀ x ∈ l.take p, L (key x) a) (h2 : ∀ x ∈ l.drop p, ¬ L (key x) a) (h3 : ∀ x ∈ l.take q, b = [] ∨ L (key x) b) (h4 : ∀ x ∈ l.drop q, b ≠ [] ∧ ¬ L (key x) b) : (l.filter fun e => !(hold a b e.f0.toList)) = l.take p ++ l.drop q := by
  have e : l = l.take p ++ ((l.take q).drop p ++ l.drop q) := by
    have h5 : (l.take q).take p = l.take p := by rw [List.take_take, Nat.min_eq_left hpq]
    rw [← List.append_assoc]
    rw [← h5, List.take_append_drop, List.take_append_drop]
  have f1 : ((l.take p).filter fun e => !(hold a b e.f0.toList)) = l.take p := List.filter_eq_self.2 (fun x hx => by
    have := h1 x hx
    unfold key L at this
    unfold hold
    rw [this]; rfl)
  have f2 : (((l.take q).drop p).filter fun e => !(hold a b e.f0.toList)) = [] := List.filter_eq_nil_iff.2 (fun x hx => by
    have ha : ¬ L (key x) a := by
      refine h2 x ?_
      rw [List.drop_take] at hx
      exact List.mem_of_mem_take hx
    have hb := h3 x (List.mem_of_mem_drop hx)
    unfold key L at ha hb
    unfold hold
    rw [Bool.eq_false_iff.2 ha]
    rcases hb with hb | hb
    · rw [hb]; simp
    · rw [hb]; simp)
  have f3 : ((l.drop q).filter fun e => !(hold a b e.f0.toList)) = l.drop q := List.filter_eq_self.2 (fun x hx => by
    obtain ⟨hb, hb2⟩ := h4 x hx
    unfold key L at hb2
    unfold hold
    have : b.isEmpty = false := by simpa using hb
    rw [this, Bool.eq_false_iff.2 hb2]
    simp)
  conv => lhs; rw [e]
  rw [List.filter_append, List.filter_append, f1, f2, f3, List.nil_append]
theorem cut_f {l : List S25} (hs : Srt l) (hl : l.length < 400000) (a b : ByteArray) (k : Nat) (hk : l.length + 1 < k) : block_Cut.f k l a b = some (l.filter fun e => !(hold a.toList b.toList e.f0.toList)) := by
  obtain ⟨k, rfl⟩ : ∃ k2, k = k2 + 1 := ⟨k - 1, by omega⟩
  obtain ⟨loa, oa, hia, Pa⟩ := parts hs a
  obtain ⟨lob, ob, hib, Pb⟩ := parts hs b
  have la : loa.length ≤ l.length := by have := congrArg List.length Pa.eq; simp only [List.length_append] at this; omega
  have lb : lob.length ≤ l.length := by have := congrArg List.length Pb.eq; simp only [List.length_append] at this; omega
  unfold block_Cut.f
  rw [rr_f, Option.bind_some]
  by_cases hr : (b.toList.isEmpty || Op.bytesLess a.toList b.toList) = true
  · rw [if_pos hr, place_f Pa hl (k + 1) (by omega), Option.bind_some]
    by_cases hb : b.toList = []
    · have hm : mx (loa.length : Int) (l.length : Int) = (l.length : Int) := by unfold mx; split <;> omega
      rw [if_pos hb, block_Cut.j0]
      unfold block_without.f
      dsimp only
      rw [hm, if_pos (by omega), Option.bind_some, Int.toNat_natCast, Int.toNat_natCast]
      congr 1
      refine (cut_filter la (parts_take Pa) (parts_drop Pa) (fun x _ => .inl hb) ?_).symm
      rw [List.drop_length]
      simp
    · have hL : L a.toList b.toList := by
        have h0 : b.toList.isEmpty = false := by simpa using hb
        rw [h0, Bool.false_or] at hr
        exact hr
      have hle : loa.length ≤ lob.length := by
        rcases Nat.lt_or_ge lob.length loa.length with h | h
        · exfalso
          have hx : lob.length < l.length := by omega
          have m1 : l[lob.length] ∈ l.take loa.length := by
            rw [List.mem_take_iff_getElem]
            exact ⟨lob.length, by omega, rfl⟩
          have m2 : l[lob.length] ∈ l.drop lob.length := by
            rw [List.drop_eq_getElem_cons hx]
            exact List.mem_cons_self ..
          exact parts_drop Pb _ m2 (L_trans (parts_take Pa _ m1) hL)
        · exact h
      have hm : mx (loa.length : Int) (lob.length : Int) = (lob.length : Int) := by unfold mx; split <;> omega
      rw [if_neg hb, place_f Pb hl (k + 1) (by omega), Option.bind_some, block_Cut.j0]
      unfold block_without.f
      dsimp only
      rw [hm, if_pos (by omega), Option.bind_some, Int.toNat_natCast, Int.toNat_natCast]
      congr 1
      exact (cut_filter hle (parts_take Pa) (parts_drop Pa) (fun x hx => .inr (parts_take Pb x hx)) (fun x hx => ⟨hb, parts_drop Pb x hx⟩)).symm
  · rw [if_neg hr, clone_f l (by omega), Option.bind_some]
    congr 1
    refine (List.filter_eq_self.2 (fun x hx => ?_)).symm
    have h0 : b.toList.isEmpty = false ∧ Op.bytesLess a.toList b.toList = false := by
      rcases h1 : b.toList.isEmpty with _ | _
      · rcases h2 : Op.bytesLess a.toList b.toList with _ | _
        · exact ⟨rfl, rfl⟩
        · exact absurd (by rw [h1, h2]; rfl) hr
      · exact absurd (by rw [h1]; rfl) hr
    unfold hold
    rw [h0.1, Bool.false_or]
    rcases h1 : Op.bytesLess x.f0.toList a.toList with _ | _
    · rcases h2 : Op.bytesLess x.f0.toList b.toList with _ | _
      · rfl
      · exfalso
        have : L a.toList b.toList := L_of_le (b := x.f0.toList) (by unfold L; rw [h1]; decide) h2
        unfold L at this
        rw [h0.2] at this
        cases this
    · rfl
theorem refCut_loop {l : List S25} (hl : l.length < 400000) (a b : ByteArray) : ∀ (r : List S25) (acc : List S25) (i k : Nat), l.drop i = r → r.length < k → acc.length + r.length < 900000 → catchmentref10_Cut.l0 k l acc (i : Int) a b = some (acc ++ r.filter fun e => !(hold a.toList b.toList e.f0.toList))
  | _, _, _, 0, _, h, _ => absurd h (by omega)
  | [], acc, i, k + 1, h, hk, hn => by
    have := drop_nil h
    rw [catchmentref10_Cut.l0, if_neg (by omega)]
    simp
  | x :: r, acc, i, k + 1, h, hk, hn => by
    obtain ⟨h1, h2, h3⟩ := rd_drop h
    simp only [List.length_cons] at hk hn
    rw [catchmentref10_Cut.l0, if_pos (by omega), if_pos (by omega), h2, succ_nat i (by omega), refHolds_f, Option.bind_some, List.filter_cons]
    cases hh : hold a.toList b.toList x.f0.toList with
    | true =>
      rw [if_pos rfl, if_neg (by decide)]
      exact refCut_loop hl a b r acc (i + 1) k h3 (by omega) (by omega)
    | false =>
      rw [if_neg (by decide), if_pos (by omega), if_pos (by decide), refCut_loop hl a b r _ (i + 1) k h3 (by omega) (by simp; omega)]
      simp
/-! ### Apply -/
theorem tch_own {m : S46} (hp : pnt m = true) : tch m m.f2 = true := by
  unfold tch
  rw [if_pos hp]
  simp
theorem msgApply_f {m : S46} (hp : pnt m = true) (v : ByteArray) (is : Bool) (k : Nat) (hk : 20 ≤ k) : msg_Apply.f k m.f0 m.f1 m.f2 m.f3 m.f4 m.f5 v is = some (on m m.f2 v is) := by
  obtain ⟨k, rfl⟩ : ∃ k2, k = k2 + 1 := ⟨k - 1, by omega⟩
  unfold msg_Apply.f on
  rw [if_pos (tch_own hp)]
  by_cases h1 : m.f0 = 1
  · rw [if_pos h1, if_pos h1]
  · rw [if_neg h1, if_neg h1]
    by_cases h3 : m.f0 = 3
    · rw [if_pos h3, if_pos h3, add_f (k + 1) (by omega), Option.bind_some]
    · rw [if_neg h3, if_neg h3]
      have h2 : m.f0 = 2 := by
        unfold pnt at hp
        simp at hp
        omega
      rw [if_pos h2, h2, msg_Apply.j0]
      rfl
theorem apply_point {m : S46} (hp : pnt m = true) {l lo hi : List S25} {o : Option ByteArray} (P : Parts l m.f2 lo o hi) (hl : l.length < 400000) (k : Nat) (hk : l.length + 100 < k) : block_Apply.f k l m.f0 m.f1 m.f2 m.f3 m.f4 m.f5 = some (lo ++ md m.f2 (eff m m.f2 o) ++ hi) := by
  obtain ⟨k, rfl⟩ : ∃ k2, k = k2 + 1 := ⟨k - 1, by omega⟩
  have h4 : ¬ m.f0 = 4 := by
    unfold pnt at hp
    simp at hp
    omega
  have hj : block_Apply.j0 (k + 1) l (o.getD ⟨#[]⟩) o.isSome m.f0 m.f1 m.f2 m.f3 m.f4 m.f5 = some (lo ++ md m.f2 (eff m m.f2 o) ++ hi) := by
    rw [block_Apply.j0, msgApply_f hp _ _ k (by omega), Option.bind_some]
    unfold eff
    by_cases hb : (on m m.f2 (o.getD ⟨#[]⟩) o.isSome).2 = true
    · rw [if_pos hb, if_pos hb, put_f P hl k (by omega), Option.bind_some]
    · rw [if_neg hb, if_neg hb, drop_f P hl k (by omega), Option.bind_some, md_none, List.append_nil]
  unfold block_Apply.f
  rw [if_neg h4, isPoint_f, Option.bind_some, if_pos hp, place_f P hl (k + 1) (by omega), Option.bind_some]
  cases o with
  | some v =>
    have e2 : l.drop lo.length = ⟨m.f2, v⟩ :: hi := by rw [P.eq, md_some, List.append_assoc, List.drop_left' rfl]; rfl
    obtain ⟨h1, h2, _⟩ := rd_drop e2
    dsimp only [Option.isSome]
    rw [if_pos rfl, if_pos (by omega), if_pos (by omega), h2]
    exact hj
  | none =>
    dsimp only [Option.isSome]
    rw [if_neg (by decide)]
    exact hj
theorem apply_other {m : S46} (hp : pnt m = false) {l : List S25} (hs : Srt l) (hl : l.length < 400000) (k : Nat) (hk : l.length + 100 < k) : block_Apply.f k l m.f0 m.f1 m.f2 m.f3 m.f4 m.f5 = some (l.filter fun e => !(tch m e.f0)) := by
  unfold block_Apply.f
  have ht : ∀ q, tch m q = if m.f0 = 4 then hold m.f2.toList m.f3.toList q.toList else false := by
    intro q
    unfold tch
    rw [if_neg (by rw [hp]; decide)]
  by_cases h4 : m.f0 = 4
  · rw [if_pos h4]
    unfold msg_Span.f
    rw [isPoint_f, Option.bind_some, if_neg (by rw [hp]; decide), if_pos h4, Option.bind_some, cut_f hs hl _ _ k (by omega), Option.bind_some]
    simp only [ht, if_pos h4]
  · rw [if_neg h4, isPoint_f, Option.bind_some, if_neg (by rw [hp]; decide), clone_f l (by omega), Option.bind_some]
    congr 1
    refine (List.filter_eq_self.2 (fun x _ => ?_)).symm
    rw [ht, if_neg h4]
    rfl
theorem BlockDoes : catchmentlaw10_BlockDoes.Pure := by
  intro l x r m _ _ _ hm
  refine ⟨2000, ?_⟩
  unfold catchmentlaw10_BlockDoes.f
  have hmn : 0 ≤ mn (l.length : Int) 40 ∧ mn (l.length : Int) 40 ≤ (l.length : Int) ∧ mn (l.length : Int) 40 ≤ 40 := by
    unfold mn
    split <;> omega
  generalize mn (l.length : Int) 40 = n at hmn
  rw [if_pos hmn.1, if_pos hmn.2.1]
  have hl : (l.take n.toNat).length ≤ 40 := by rw [List.length_take]; omega
  generalize l.take n.toNat = p at hl
  obtain ⟨b, hb, hs⟩ := rises_loop (l := p) (by omega) (p.length - 1) 1 2000 rfl (by omega) (by omega)
  have hb2 : catchmentref05_Rises.f 2000 p = some b := hb
  rw [Option.bind_some, hb2, Option.bind_some]
  cases b with
  | false => rw [if_neg (by decide), hlive_ge (by omega)]; rfl
  | true =>
    have hsrt : Srt p := srt_of (hs rfl)
    obtain ⟨lo, o, hi, P⟩ := parts hsrt x.f0
    have hlen := congrArg List.length P.eq
    simp only [List.length_append] at hlen
    have hmd : ∀ o : Option ByteArray, (md x.f0 o).length ≤ 1 := by
      intro o
      cases o <;> simp [md]
    have hd := ent_point (m := ⟨2, 0, x.f0, ⟨#[]⟩, ⟨#[]⟩, 0⟩) (by simp) rfl P (by omega) 2000 (by omega)
    have hu := ent_point (m := ⟨1, 0, x.f0, ⟨#[]⟩, x.f1, 0⟩) (by simp) rfl P (by omega) 2000 (by omega)
    have hde : eff ⟨2, 0, x.f0, ⟨#[]⟩, ⟨#[]⟩, 0⟩ x.f0 o = none := by
      have ht := tch_own (m := ⟨2, 0, x.f0, ⟨#[]⟩, ⟨#[]⟩, 0⟩) rfl
      unfold eff on
      dsimp only at ht ⊢
      rw [ht]
      rfl
    have hue : eff ⟨1, 0, x.f0, ⟨#[]⟩, x.f1, 0⟩ x.f0 o = some x.f1 := by
      have ht := tch_own (m := ⟨1, 0, x.f0, ⟨#[]⟩, x.f1, 0⟩) rfl
      unfold eff on
      dsimp only at ht ⊢
      rw [ht]
      rfl
    dsimp only at hd hu
    rw [hde, md_none, List.append_nil] at hd
    rw [hue] at hu
    have hcl : (p.filter fun e => !(hold r.f0.toList r.f1.toList e.f0.toList)).length ≤ 40 := Nat.le_trans (List.length_filter_le _ _) hl
    have hc := refCut_loop (l := p) (by omega) r.f0 r.f1 p [] 0 2000 (List.drop_zero ..) (by omega) (by simp; omega)
    rw [List.nil_append] at hc
    have hc2 : catchmentref10_Cut.f 2000 p r.f0 r.f1 = _ := hc
    have hup : catchmentref10_Put.f 2000 p x.f0 x.f1 = some (lo ++ md x.f0 (some x.f1) ++ hi) := by
      unfold catchmentref10_Put.f
      rw [hu]
      rfl
    rw [if_pos rfl, place_f P (by omega) 2000 (by omega), Option.bind_some, refPlace_f P (by omega) 2000 (by omega), Option.bind_some, hd, Option.bind_some, hlive_ge (by omega), Option.bind_some, if_pos rfl, if_pos rfl, if_pos (by simp), put_f P (by omega) 2000 (by omega), Option.bind_some, hup, Option.bind_some, same_f _ (by have := hmd (some x.f1); simp; omega) 2000 (by have := hmd (some x.f1); simp; omega), Option.bind_some, if_pos rfl]
    rw [drop_f P (by omega) 2000 (by omega), Option.bind_some, same_f _ (by simp; omega) 2000 (by simp; omega), Option.bind_some, if_pos rfl, cut_f hsrt (by omega) _ _ 2000 (by omega), Option.bind_some, hc2, Option.bind_some, same_f _ (by omega) 2000 (by omega), Option.bind_some, if_pos rfl]
    have hm5 : 0 ≤ m.f5 ∧ m.f5 ≤ 18446744073709551615 := by
      have h := hm.2.2.2.2.2
      simpa [Lit.wf, IntKind.min, IntKind.max, IntKind.signed, IntKind.bits] using h
    cases hp : pnt m with
    | true =>
      obtain ⟨lo2, o2, hi2, P2⟩ := parts hsrt m.f2
      have hlen2 := congrArg List.length P2.eq
      simp only [List.length_append] at hlen2
      have hmd2 : ∀ o : Option ByteArray, (md m.f2 o).length ≤ 1 := by
        intro o
        cases o <;> simp [md]
      rw [apply_point hp P2 (by omega) 2000 (by omega), Option.bind_some, ent_point hm5 hp P2 (by omega) 2000 (by omega), Option.bind_some, same_f _ (by have := hmd2 (eff m m.f2 o2); simp; omega) 2000 (by have := hmd2 (eff m m.f2 o2); simp; omega), Option.bind_some]
    | false =>
      have hfl : (p.filter fun e => !(tch m e.f0)).length ≤ 40 := Nat.le_trans (List.length_filter_le _ _) hl
      rw [apply_other hp hsrt (by omega) 2000 (by omega), Option.bind_some, ent_other hm5 hp hsrt (by omega) 2000 (by omega), Option.bind_some, same_f _ (by omega) 2000 (by omega), Option.bind_some]
end Go.Proofs.Ytnklnjghecmihaa.Pure
