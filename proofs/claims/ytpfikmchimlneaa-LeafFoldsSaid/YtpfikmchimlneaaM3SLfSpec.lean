/- What leaf's functions on rows compute, in plain words: the block of a key, what a point and a clearing make of a row, what many messages make of it. No condition beyond sizes. -/
import Derived.Test.YtpfikmchimlneaaM3x54
import Derived.Test.YtpfikmchimlneaaM3SEntSpec
set_option linter.unusedVariables false
set_option linter.unusedSimpArgs false
namespace Go.Proofs.Ytpfikmchimlneaa.LfSpec
open Go.RowKit Go.Proofs.Ytpfikmchimlneaa.M3 Go.Proofs.Ytpfikmchimlneaa.WordSpec Go.Proofs.Ytpfikmchimlneaa.BlkBase Go.Proofs.Ytpfikmchimlneaa.BlkSpec Go.Proofs.Ytpfikmchimlneaa.EntSpec Go.Proofs.YtpfikmchimlneaaW.PrintWords Go.Proofs.YtpfikmchimlneaaW.PrintLast Go.Proofs.YtpfikmchimlneaaW.PrintMore Go.Proofs.YtpfikmchimlneaaW.Mine Go.Proofs.YtpfikmchimlneaaW.Ord
/-- a row that is right: no block is empty, the entries rise -/
structure WF (b : List (List S85)) : Prop where
  ne : ∀ x ∈ b, x ≠ []
  srt : Srt b.flatten
/-- the key of a block's first entry -/
def hk (e : List S85) : List UInt8 := key (rd_T85 e 0)
theorem hk_mem {e : List S85} (h : e ≠ []) : ∃ z ∈ e, key z = hk e := by
  cases e with
  | nil => exact absurd rfl h
  | cons z t => exact ⟨z, List.mem_cons_self .., rfl⟩
theorem hk_le {e : List S85} (hs : Srt e) : ∀ z ∈ e, ¬ L (key z) (hk e) := by
  intro z hz
  cases e with
  | nil => cases hz
  | cons y t =>
    show ¬ L (key z) (key y)
    rcases List.mem_cons.1 hz with rfl | hz
    · exact L_irrefl _
    · exact L_asymm ((List.pairwise_cons.1 hs).1 z hz)
theorem srt_append {a b : List S85} : Srt (a ++ b) ↔ Srt a ∧ Srt b ∧ ∀ x ∈ a, ∀ y ∈ b, L (key x) (key y) := List.pairwise_append
theorem rd_at {A C : List (List S85)} {e : List S85} : rd_L2 (A ++ e :: C) (A.length : Int) = e := by
  unfold rd_L2
  rw [Int.toNat_natCast, List.getD_eq_getElem?_getD, List.getElem?_append_right (Nat.le_refl _), Nat.sub_self]
  rfl
theorem rd_mem {b : List (List S85)} (i : Nat) (h : i < b.length) : rd_L2 b (i : Int) ∈ b := by
  unfold rd_L2
  rw [Int.toNat_natCast, List.getD_eq_getElem?_getD, List.getElem?_eq_getElem h]
  exact List.getElem_mem h
/-! ### the block of a key -/
theorem of1_f {e : List S85} (he : e ≠ []) (s : ByteArray) : leaf_of_1.f e s = some (Lib.compareBytes (hk e) s.toList) := by
  have h : 0 < e.length := List.length_pos_iff.2 he
  unfold leaf_of_1.f strings_Compare.f hk key
  rw [if_neg (by omega), if_pos (by omega), toList_data, toList_data]
  rfl
theorem of_loop {b : List (List S85)} {s : ByteArray} {q : Nat} (hb : b.length < 400000) (hne : ∀ x ∈ b, x ≠ []) (hq : ∀ i : Nat, i < b.length → (L (hk (rd_L2 b (i : Int))) s.toList ↔ i < q)) : ∀ (k i j : Nat), i ≤ q → q ≤ j → j ≤ b.length → j - i < k → api_Entry_string_109.l0 k b s (b.length : Int) (i : Int) (j : Int) = some ((q : Int), decide (q < b.length ∧ hk (rd_L2 b (q : Int)) = s.toList))
  | 0, _, _, _, _, _, h => absurd h (by omega)
  | k + 1, i, j, hi1, hj1, hj2, hk1 => by
    rw [api_Entry_string_109.l0]
    by_cases hij : i < j
    · have hh : (i + j) / 2 < b.length := by omega
      rw [if_pos (by omega), mid_nat i j (by omega), if_pos (by omega), if_pos (by omega), of1_f (hne _ (rd_mem _ hh)), Option.bind_some]
      by_cases hlt : (i + j) / 2 < q
      · have hL := (hq _ hh).2 hlt
        rw [if_pos (by have := mt (compare_ge (hk (rd_L2 b (((i + j) / 2 : Nat) : Int))) s.toList).1 (fun h => h hL); omega), succ_nat _ (by omega)]
        exact of_loop hb hne hq k _ j (by omega) hj1 hj2 (by omega)
      · have hL : ¬ L (hk (rd_L2 b (((i + j) / 2 : Nat) : Int))) s.toList := fun h => hlt ((hq _ hh).1 h)
        rw [if_neg (by have := (compare_ge (hk (rd_L2 b (((i + j) / 2 : Nat) : Int))) s.toList).2 hL; omega)]
        exact of_loop hb hne hq k i _ hi1 (by omega) (by omega) (by omega)
    · obtain rfl : i = q := by omega
      obtain rfl : j = i := by omega
      rw [if_neg (by omega)]
      by_cases hql : j < b.length
      · rw [if_pos (by omega), if_pos (by omega), if_pos (by omega), of1_f (hne _ (rd_mem _ hql)), Option.bind_some]
        by_cases he : hk (rd_L2 b (j : Int)) = s.toList
        · rw [he, cmp_self, decide_eq_true ⟨hql, rfl⟩]
          rfl
        · rw [decide_eq_false (fun h => he h.2), beq_eq_false_iff_ne.2 (fun h => he (cmp_zero _ _ h))]
      · rw [if_neg (by omega), decide_eq_false (fun h => hql h.1)]
theorem splitB (s : List UInt8) : ∀ b : List (List S85), WF b → ∃ lo hi, b = lo ++ hi ∧ (∀ x ∈ lo, L (hk x) s) ∧ (∀ x ∈ hi, ¬ L (hk x) s)
  | [], _ => ⟨[], [], rfl, by simp, by simp⟩
  | e :: t, h => by
    have hs := h.srt
    rw [List.flatten_cons] at hs
    have hs := srt_append.1 hs
    have ht : WF t := ⟨fun x hx => h.ne x (List.mem_cons_of_mem _ hx), hs.2.1⟩
    by_cases ha : L (hk e) s
    · obtain ⟨lo, hi, rfl, h1, h2⟩ := splitB s t ht
      refine ⟨e :: lo, hi, rfl, ?_, h2⟩
      intro x hx
      rcases List.mem_cons.1 hx with rfl | hx
      · exact ha
      · exact h1 x hx
    · refine ⟨[], e :: t, rfl, by simp, ?_⟩
      intro x hx
      rcases List.mem_cons.1 hx with rfl | hx
      · exact ha
      · obtain ⟨z, hz, hz2⟩ := hk_mem (h.ne e (List.mem_cons_self ..))
        obtain ⟨u, hu, hu2⟩ := hk_mem (ht.ne x hx)
        have := hs.2.2 z hz u (List.mem_flatten.2 ⟨x, hx, hu⟩)
        rw [hz2, hu2] at this
        exact fun h' => ha (L_trans this h')
theorem of_f {b : List (List S85)} (h : WF b) (h0 : b ≠ []) (hb : b.length < 400000) (s : ByteArray) (k : Nat) (hkk : b.length < k) : ∃ A e C, b = A ++ e :: C ∧ leaf_of.f k b s = some (A.length : Int) ∧ (∀ x ∈ A.flatten, L (key x) s.toList) ∧ (∀ x ∈ C.flatten, L s.toList (key x)) ∧ (∀ x ∈ C, L s.toList (hk x)) ∧ (A ≠ [] → ¬ L s.toList (hk e)) := by
  obtain ⟨lo, hi, rfl, h1, h2⟩ := splitB s.toList b h
  have hs := h.srt
  rw [List.flatten_append] at hs
  have hs := srt_append.1 hs
  have hq : ∀ i : Nat, i < (lo ++ hi).length → (L (hk (rd_L2 (lo ++ hi) (i : Int))) s.toList ↔ i < lo.length) := by
    intro i hi'
    have e0 : rd_L2 (lo ++ hi) (i : Int) = (lo ++ hi)[i] := by unfold rd_L2; rw [Int.toNat_natCast, List.getD_eq_getElem?_getD, List.getElem?_eq_getElem hi']; rfl
    rw [e0]
    rcases Nat.lt_or_ge i lo.length with hlt | hge
    · rw [List.getElem_append_left hlt]
      exact ⟨fun _ => hlt, fun _ => h1 _ (List.getElem_mem _)⟩
    · rw [List.getElem_append_right hge]
      exact ⟨fun h' => absurd h' (h2 _ (List.getElem_mem _)), fun h' => absurd h' (by omega)⟩
  have hL := of_loop hb h.ne hq k 0 (lo ++ hi).length (by omega) (by simp) (Nat.le_refl _) (by omega)
  have hlen : lo.length ≤ (lo ++ hi).length := by simp
  have hf : leaf_of.f k (lo ++ hi) s = some (if (decide (lo.length < (lo ++ hi).length ∧ hk (rd_L2 (lo ++ hi) (lo.length : Int)) = s.toList)) = true then (lo.length : Int) else ((lo.length - 1 : Nat) : Int)) := by
    unfold leaf_of.f api_Entry_string_109.f
    rw [show (0 : Int) = ((0 : Nat) : Int) from rfl, hL, Option.bind_some]
    split
    · rfl
    · congr 1
      rcases Nat.eq_zero_or_pos lo.length with hz | hz
      · rw [hz]
        show mx (wrap64 (((0 : Nat) : Int) - 1)) ((0 : Nat) : Int) = ((0 - 1 : Nat) : Int)
        decide +kernel
      · rw [pred_nat _ hz (by omega)]
        unfold mx
        rw [if_neg (by omega)]
  -- the entries of a block behind
  have hmem : ∀ {l : List (List S85)} {x : S85}, x ∈ l.flatten → ∃ y ∈ l, x ∈ y := fun hx => List.mem_flatten.1 hx
  have hsub : ∀ y ∈ lo ++ hi, Srt y := by
    intro y hy
    obtain ⟨P, Q, e⟩ := List.append_of_mem hy
    have := h.srt
    rw [e, List.flatten_append, List.flatten_cons] at this
    exact (srt_append.1 (srt_append.1 this).2.1).1
  by_cases hc : lo.length < (lo ++ hi).length ∧ hk (rd_L2 (lo ++ hi) (lo.length : Int)) = s.toList
  · cases hi with
    | nil => simp at hc
    | cons e C =>
      rw [rd_at] at hc
      rw [decide_eq_true (by rw [rd_at]; exact hc), if_pos rfl] at hf
      obtain ⟨z, hz, hz2⟩ := hk_mem (h.ne e (by simp))
      have hC := hs.2.1
      rw [List.flatten_cons] at hC
      have hC := srt_append.1 hC
      refine ⟨lo, e, C, rfl, hf, fun x hx => ?_, fun x hx => ?_, fun x hx => ?_, fun _ => ?_⟩
      · have := hs.2.2 x hx z (by simp [hz])
        rwa [hz2, hc.2] at this
      · have := hC.2.2 z hz x hx
        rwa [hz2, hc.2] at this
      · obtain ⟨u, hu, hu2⟩ := hk_mem (h.ne x (by simp [hx]))
        have := hC.2.2 z hz u (List.mem_flatten.2 ⟨x, hx, hu⟩)
        rwa [hz2, hc.2, hu2] at this
      · rw [hc.2]
        exact L_irrefl _
  · rw [decide_eq_false hc, if_neg (by decide)] at hf
    -- behind lo all is above
    have hab : ∀ x ∈ hi, L s.toList (hk x) := by
      intro x hx
      cases hi with
      | nil => cases hx
      | cons e C =>
        have he : ¬ hk e = s.toList := fun h' => hc ⟨by simp, by rw [rd_at]; exact h'⟩
        have hse : L s.toList (hk e) := L_of_ne (h2 e (by simp)) he
        rcases List.mem_cons.1 hx with rfl | hx
        · exact hse
        · obtain ⟨z, hz, hz2⟩ := hk_mem (h.ne e (by simp))
          obtain ⟨u, hu, hu2⟩ := hk_mem (h.ne x (by simp [hx]))
          have hC := hs.2.1
          rw [List.flatten_cons] at hC
          have := (srt_append.1 hC).2.2 z hz u (List.mem_flatten.2 ⟨x, hx, hu⟩)
          rw [hz2, hu2] at this
          exact L_trans hse this
    have hab2 : ∀ x ∈ hi.flatten, L s.toList (key x) := by
      intro x hx
      obtain ⟨y, hy, hxy⟩ := hmem hx
      exact L_of_lt (hab y hy) (hk_le (hsub y (by simp [hy])) x hxy)
    rcases List.eq_nil_or_concat lo with rfl | ⟨A, e, rfl⟩
    · cases hi with
      | nil => exact absurd rfl h0
      | cons e C => exact ⟨[], e, C, rfl, hf, by simp, fun x hx => hab2 x (by rw [List.flatten_cons]; exact List.mem_append_right _ hx), fun x hx => hab x (List.mem_cons_of_mem _ hx), fun h' => absurd rfl h'⟩
    · rw [List.concat_eq_append] at *
      have e1 : ((A ++ [e]).length - 1 : Nat) = A.length := by simp
      rw [e1] at hf
      obtain ⟨z, hz, hz2⟩ := hk_mem (h.ne e (by simp))
      have hA := hs.1
      rw [List.flatten_append] at hA
      have hA := srt_append.1 hA
      refine ⟨A, e, hi, by simp, hf, fun x hx => ?_, hab2, hab, fun _ => L_asymm (h1 e (by simp))⟩
      have := hA.2.2 x hx z (by simp [hz])
      rw [hz2] at this
      exact L_trans this (h1 e (by simp))
/-! ### a point -/
theorem srt_mid {l lo hi : List S85} {s : ByteArray} {o : Option ByteArray} (P : Parts l s lo o hi) (o' : Option ByteArray) : Srt (lo ++ md s o' ++ hi) := by
  have h := P.srt
  rw [P.eq, List.append_assoc] at h
  have h1 := srt_append.1 h
  have h2 := srt_append.1 h1.2.1
  rw [List.append_assoc]
  refine srt_append.2 ⟨h1.1, srt_append.2 ⟨?_, h2.2.1, fun x hx y hy => ?_⟩, fun x hx y hy => ?_⟩
  · cases o' with
    | none => exact List.Pairwise.nil
    | some v => exact List.pairwise_singleton _ _
  · cases o' with
    | none => cases hx
    | some v =>
      obtain rfl := List.mem_singleton.1 hx
      exact P.gt y hy
  · rcases List.mem_append.1 hy with hy | hy
    · cases o' with
      | none => cases hy
      | some v =>
        obtain rfl := List.mem_singleton.1 hy
        exact P.lt x hx
    · exact L_trans (P.lt x hx) (P.gt y hy)
theorem parts_mid {l lo hi : List S85} {s : ByteArray} {o : Option ByteArray} (P : Parts l s lo o hi) (o' : Option ByteArray) : Parts (lo ++ md s o' ++ hi) s lo o' hi := ⟨rfl, P.lt, P.gt, srt_mid P o'⟩
theorem find_parts {l lo hi : List S85} {s : ByteArray} {o : Option ByteArray} (P : Parts l s lo o hi) : find l s = (o.getD ⟨#[]⟩, o.isSome) := by
  cases o with
  | some v => exact find_mem P.srt (x := ⟨s, v⟩) (by rw [P.eq]; simp [md])
  | none =>
    refine find_no (fun x hx e => ?_)
    rw [P.eq, md_none, List.append_nil] at hx
    rcases List.mem_append.1 hx with h | h
    · have := P.lt x h; rw [e] at this; exact L_irrefl _ this
    · have := P.gt x h; rw [e] at this; exact L_irrefl _ this
theorem find_app : ∀ (a b : List S85) (q : ByteArray), find (a ++ b) q = if (find a q).2 = true then find a q else find b q
  | [], b, q => rfl
  | x :: a, b, q => by
    rw [List.cons_append, find_cons, find_cons]
    by_cases h : x.f0.toList = q.toList
    · rw [if_pos h, if_pos h, if_pos rfl]
    · rw [if_neg h, if_neg h]
      exact find_app a b q
theorem find_md {s q : ByteArray} (h : q ≠ s) (o : Option ByteArray) : find (md s o) q = (⟨#[]⟩, false) := by
  refine find_no (fun x hx e => ?_)
  cases o with
  | none => cases hx
  | some v =>
    obtain rfl := List.mem_singleton.1 hx
    exact h (bytes_ext e).symm
/-- what a point makes of a row that rises, key by key -/
theorem find_point {m : S69} (hp : pnt m = true) {l lo hi : List S85} {o : Option ByteArray} (P : Parts l m.f2 lo o hi) (q : ByteArray) : find (lo ++ md m.f2 (eff m m.f2 o) ++ hi) q = on m q (find l q).1 (find l q).2 := by
  by_cases hq : q = m.f2
  · subst hq
    rw [find_parts (parts_mid P _), find_parts P]
    have hn : Nrm (o.getD ⟨#[]⟩, o.isSome) := by
      intro h
      cases o with
      | none => rfl
      | some v => cases h
    unfold eff
    split
    · rename_i hb
      exact Prod.ext rfl hb.symm
    · rename_i hb
      exact ((on_nrm (m := m) (q := m.f2) hn).eq (Bool.eq_false_iff.2 hb)).symm
  · have ht : tch m q = false := by
      unfold tch
      rw [if_pos hp, beq_eq_false_iff_ne]
      exact fun h => hq (bytes_ext h).symm
    have h1 : on m q (find l q).1 (find l q).2 = find l q := by
      unfold on
      rw [ht]
      rfl
    rw [h1, P.eq, find_app, find_app, find_app (lo ++ md m.f2 o), find_app lo, find_md hq, find_md hq]
theorem set_at {α : Type} (A C : List α) (e e' : α) : (A ++ e :: C).set A.length e' = A ++ e' :: C := by
  rw [List.set_append, if_neg (by omega), Nat.sub_self]
  rfl
theorem take_at {α : Type} (A C : List α) (e : α) : (A ++ e :: C).take A.length = A := List.take_left' rfl
theorem drop_at {α : Type} (A C : List α) (e : α) : (A ++ e :: C).drop (A.length + 1) = C := by
  rw [show A ++ e :: C = (A ++ [e]) ++ C by simp]
  exact List.drop_left' (by simp)
/-- what weld makes of a row: the same entries -/
theorem weld_ok (l : List (List S85)) (i most : Int) (hm : 0 ≤ most) : (leaf_weld.w l i most).flatten = l.flatten ∧ ((∀ x ∈ l, x ≠ []) → ∀ x ∈ leaf_weld.w l i most, x ≠ []) ∧ ((∀ x ∈ l, (x.length : Int) ≤ most) → ∀ x ∈ leaf_weld.w l i most, (x.length : Int) ≤ most) := by
  unfold leaf_weld.w
  by_cases hc : leaf_weld.can l i most = true
  · rw [if_pos hc]
    unfold leaf_weld.can at hc
    simp only [Bool.and_eq_true, decide_eq_true_eq] at hc
    obtain ⟨⟨h1, h2⟩, h3⟩ := hc
    obtain ⟨n, rfl⟩ := Int.eq_ofNat_of_zero_le h1
    have e1 : ((n : Int) + 1).toNat = n + 1 := by omega
    simp only [e1, Int.toNat_natCast] at h3 ⊢
    have hn : n < l.length := by omega
    have hn1 : n + 1 < l.length := by omega
    have g1 : leaf_weld.at l n = l[n] := by unfold leaf_weld.at; rw [List.getD_eq_getElem?_getD, List.getElem?_eq_getElem hn]; rfl
    have g2 : leaf_weld.at l (n + 1) = l[n + 1] := by unfold leaf_weld.at; rw [List.getD_eq_getElem?_getD, List.getElem?_eq_getElem hn1]; rfl
    rw [g1, g2] at h3 ⊢
    have hl : l = l.take n ++ l[n] :: l[n + 1] :: l.drop (n + 2) := by
      rw [← List.drop_eq_getElem_cons hn1, ← List.drop_eq_getElem_cons hn, List.take_append_drop]
    refine ⟨?_, fun h x hx => ?_, fun h x hx => ?_⟩
    · conv => rhs; rw [hl]
      simp only [List.flatten_append, List.flatten_cons, List.flatten_nil, List.append_nil, List.append_assoc]
    · rcases List.mem_append.1 hx with hx | hx
      · rcases List.mem_append.1 hx with hx | hx
        · exact h x (List.mem_of_mem_take hx)
        · obtain rfl := List.mem_singleton.1 hx
          exact fun h' => h _ (List.getElem_mem hn) (List.append_eq_nil_iff.1 h').1
      · exact h x (List.mem_of_mem_drop hx)
    · rcases List.mem_append.1 hx with hx | hx
      · rcases List.mem_append.1 hx with hx | hx
        · exact h x (List.mem_of_mem_take hx)
        · obtain rfl := List.mem_singleton.1 hx
          rw [List.length_append]
          omega
      · exact h x (List.mem_of_mem_drop hx)
  · rw [if_neg hc]
    exact ⟨rfl, id, id⟩
theorem halves_f (e : List S85) (h : e.length < 400000) : block_Halves.f e = some (e.take (e.length / 2), e.drop (e.length / 2)) := by
  have hw : wrap64 ((e.length : Int) / 2) = ((e.length / 2 : Nat) : Int) := wrap64_id (n := ((e.length / 2 : Nat) : Int)) (by omega) (by omega)
  have hle : e.length / 2 ≤ e.length := Nat.div_le_self _ _
  unfold block_Halves.f
  rw [hw, if_pos (by omega), if_pos (by omega), Int.toNat_natCast, clone_f _ (by rw [List.length_take]; omega), Option.bind_some, clone_f _ (by rw [List.length_drop]; omega), Option.bind_some]
/-- the tail of a point: what becomes of the block -/
theorem tail_f {A C : List (List S85)} {e e' : List S85} (most : Int) (hm : 2 ≤ most) (hne : ∀ x ∈ A ++ e :: C, x ≠ []) (hl : e'.length < 400000) (hs : Srt (A.flatten ++ e' ++ C.flatten)) (hle : e'.length ≤ e.length + 1) :
    ∃ ys, leaf_point.tail (A ++ e' :: C) A.length e' e.length most = some ys ∧ WF ys ∧ ys.flatten = A.flatten ++ e' ++ C.flatten ∧ ((∀ x ∈ A ++ e :: C, (x.length : Int) ≤ most) → ∀ x ∈ ys, (x.length : Int) ≤ most) := by
  have hA : ∀ x ∈ A, x ≠ [] := fun x hx => hne x (by simp [hx])
  have hC : ∀ x ∈ C, x ≠ [] := fun x hx => hne x (by simp [hx])
  have hfl : (A ++ e' :: C).flatten = A.flatten ++ e' ++ C.flatten := by rw [List.flatten_append, List.flatten_cons, List.append_assoc]
  unfold leaf_point.tail
  rw [take_at, drop_at]
  by_cases h0 : e'.length = 0
  · rw [if_pos h0]
    obtain rfl := List.eq_nil_of_length_eq_zero h0
    refine ⟨A ++ C, rfl, ⟨fun x hx => (List.mem_append.1 hx).elim (hA x) (hC x), by rw [List.flatten_append]; simpa using hs⟩, by rw [List.flatten_append]; simp, fun h x hx => h x ?_⟩
    rcases List.mem_append.1 hx with hx | hx <;> simp [hx]
  · rw [if_neg h0]
    have hne' : ∀ x ∈ A ++ e' :: C, x ≠ [] := by
      intro x hx
      rcases List.mem_append.1 hx with hx | hx
      · exact hA x hx
      · rcases List.mem_cons.1 hx with rfl | hx
        · exact fun h' => h0 (by rw [h']; rfl)
        · exact hC x hx
    by_cases h1 : most < (e'.length : Int)
    · rw [if_pos h1, halves_f e' hl, Option.bind_some]
      have hf2 : (A ++ [e'.take (e'.length / 2), e'.drop (e'.length / 2)] ++ C).flatten = A.flatten ++ e' ++ C.flatten := by
        simp only [List.flatten_append, List.flatten_cons, List.flatten_nil, List.append_nil, List.take_append_drop]
      refine ⟨_, rfl, ⟨fun x hx => ?_, by rw [hf2]; exact hs⟩, hf2, fun h x hx => ?_⟩
      · rcases List.mem_append.1 hx with hx | hx
        · rcases List.mem_append.1 hx with hx | hx
          · exact hA x hx
          · rcases List.mem_cons.1 hx with rfl | hx
            · exact fun h' => by have := congrArg List.length h'; rw [List.length_take, List.length_nil] at this; omega
            · obtain rfl := List.mem_singleton.1 hx
              exact fun h' => by have := congrArg List.length h'; rw [List.length_drop, List.length_nil] at this; omega
        · exact hC x hx
      · have he := h e (by simp)
        rcases List.mem_append.1 hx with hx | hx
        · rcases List.mem_append.1 hx with hx | hx
          · exact h x (by simp [hx])
          · rcases List.mem_cons.1 hx with rfl | hx
            · rw [List.length_take]; omega
            · obtain rfl := List.mem_singleton.1 hx
              rw [List.length_drop]; omega
        · exact h x (by simp [hx])
    · rw [if_neg h1]
      have hmx : (∀ x ∈ A ++ e :: C, (x.length : Int) ≤ most) → ∀ x ∈ A ++ e' :: C, (x.length : Int) ≤ most := by
        intro h x hx
        rcases List.mem_append.1 hx with hx | hx
        · exact h x (by simp [hx])
        · rcases List.mem_cons.1 hx with rfl | hx
          · omega
          · exact h x (by simp [hx])
      by_cases h2 : e'.length < e.length
      · rw [if_pos h2]
        have hw : ∀ i : Int, WF (leaf_weld.w (A ++ e' :: C) i most) ∧ (leaf_weld.w (A ++ e' :: C) i most).flatten = A.flatten ++ e' ++ C.flatten ∧ ((∀ x ∈ A ++ e :: C, (x.length : Int) ≤ most) → ∀ x ∈ leaf_weld.w (A ++ e' :: C) i most, (x.length : Int) ≤ most) := fun i => by
          obtain ⟨w1, w2, w3⟩ := weld_ok (A ++ e' :: C) i most (by omega)
          rw [hfl] at w1
          exact ⟨⟨w2 hne', by rw [w1]; exact hs⟩, w1, fun h => w3 (hmx h)⟩
        split
        · obtain ⟨a1, a2, a3⟩ := hw (A.length : Int)
          exact ⟨_, rfl, a1, a2, a3⟩
        · obtain ⟨a1, a2, a3⟩ := hw ((A.length : Int) - 1)
          exact ⟨_, rfl, a1, a2, a3⟩
      · rw [if_neg h2]
        exact ⟨_, rfl, ⟨hne', by rw [hfl]; exact hs⟩, hfl, hmx⟩
theorem md_len (s : ByteArray) (o : Option ByteArray) : (md s o).length ≤ 1 := by
  cases o <;> simp [md]
theorem flat_len {l : List (List S85)} : ∀ x ∈ l, x.length ≤ l.flatten.length := by
  intro x hx
  obtain ⟨P, Q, rfl⟩ := List.append_of_mem hx
  rw [List.flatten_append, List.flatten_cons, List.length_append, List.length_append]
  omega
theorem row_len : ∀ {l : List (List S85)}, (∀ x ∈ l, x ≠ []) → l.length ≤ l.flatten.length
  | [], _ => Nat.zero_le _
  | x :: l, h => by
    have ih := row_len (l := l) (fun y hy => h y (List.mem_cons_of_mem _ hy))
    have := List.length_pos_iff.2 (h x (List.mem_cons_self ..))
    rw [List.flatten_cons, List.length_append, List.length_cons]
    omega
theorem srt_nil : Srt [] := List.Pairwise.nil
theorem parts_nil (s : ByteArray) : Parts [] s [] none [] := ⟨rfl, by simp, by simp, srt_nil⟩
theorem point_f {b : List (List S85)} (h : WF b) {m : S69} (hp : pnt m = true) (most : Int) (hm : 2 ≤ most) (hl : b.flatten.length < 10000) (k : Nat) (hk : 11000 ≤ k) : ∃ ys, leaf_point.f k b m.f0 m.f1 m.f2 m.f3 m.f4 m.f5 most = some ys ∧ WF ys ∧ (∀ q, find ys.flatten q = on m q (find b.flatten q).1 (find b.flatten q).2) ∧ ((∀ x ∈ b, (x.length : Int) ≤ most) → ∀ x ∈ ys, (x.length : Int) ≤ most) ∧ ys.flatten.length ≤ b.flatten.length + 1 := by
  have hbl := row_len h.ne
  unfold leaf_point.f
  by_cases h0 : b.length = 0
  · obtain rfl := List.eq_nil_of_length_eq_zero h0
    rw [if_pos (show ([] : List (List S85)).length = 0 from rfl), apply_point hp (parts_nil m.f2) (by simp) k (by simp; omega), Option.bind_some, List.nil_append, List.append_nil]
    refine ⟨_, rfl, ?_⟩
    have hfl : (if 0 < (md m.f2 (eff m m.f2 none)).length then [md m.f2 (eff m m.f2 none)] else []).flatten = md m.f2 (eff m m.f2 none) := by
      split
      · simp
      · rename_i hz
        exact (List.eq_nil_of_length_eq_zero (by omega)).symm
    have hfp := find_point hp (parts_nil m.f2)
    rw [List.nil_append, List.append_nil] at hfp
    have hsm := srt_mid (parts_nil m.f2) (eff m m.f2 none)
    rw [List.nil_append, List.append_nil] at hsm
    have hml := md_len m.f2 (eff m m.f2 none)
    refine ⟨⟨fun x hx => ?_, by rw [hfl]; exact hsm⟩, fun q => by rw [hfl]; exact hfp q, fun _ x hx => ?_, by rw [hfl]; simp; omega⟩
    · split at hx
      · rename_i hz
        obtain rfl := List.mem_singleton.1 hx
        exact List.length_pos_iff.1 hz
      · cases hx
    · split at hx
      · obtain rfl := List.mem_singleton.1 hx
        omega
      · cases hx
  · rw [if_neg h0]
    obtain ⟨A, e, C, rfl, h1, h2, h3, _, _⟩ := of_f h (fun h' => h0 (by rw [h']; rfl)) (by omega) m.f2 k (by omega)
    have hs := h.srt
    have hfl : (A ++ e :: C).flatten = A.flatten ++ (e ++ C.flatten) := by rw [List.flatten_append, List.flatten_cons]
    rw [hfl] at hs
    have hs1 := srt_append.1 hs
    have hs2 := srt_append.1 hs1.2.1
    obtain ⟨lo, o, hi, P⟩ := parts hs2.1 m.f2
    have hel := flat_len (l := A ++ e :: C) e (by simp)
    have hel2 := congrArg List.length P.eq
    simp only [List.length_append] at hel2
    have hml := md_len m.f2 (eff m m.f2 o)
    have PP : Parts (A ++ e :: C).flatten m.f2 (A.flatten ++ lo) o (hi ++ C.flatten) := by
      refine ⟨by rw [hfl, P.eq]; simp only [List.append_assoc], fun x hx => ?_, fun x hx => ?_, h.srt⟩
      · rcases List.mem_append.1 hx with hx | hx
        · exact h2 x hx
        · exact P.lt x hx
      · rcases List.mem_append.1 hx with hx | hx
        · exact P.gt x hx
        · exact h3 x hx
    have hsn := srt_mid PP (eff m m.f2 o)
    have hfp := find_point hp PP
    have hassoc : A.flatten ++ lo ++ md m.f2 (eff m m.f2 o) ++ (hi ++ C.flatten) = A.flatten ++ (lo ++ md m.f2 (eff m m.f2 o) ++ hi) ++ C.flatten := by simp only [List.append_assoc]
    rw [hassoc] at hsn hfp
    rw [h1, Option.bind_some, if_pos ⟨by omega, by simp; omega⟩, Int.toNat_natCast]
    have hg : (A ++ e :: C).getD A.length [] = e := by
      rw [List.getD_eq_getElem?_getD, List.getElem?_append_right (Nat.le_refl _), Nat.sub_self]
      rfl
    rw [hg, apply_point hp P (by omega) k (by omega), Option.bind_some, set_at]
    have hlen' : (lo ++ md m.f2 (eff m m.f2 o) ++ hi).length ≤ e.length + 1 := by simp only [List.length_append]; omega
    generalize lo ++ md m.f2 (eff m m.f2 o) ++ hi = e' at *
    have hall : ((A ++ e' :: C).all fun x => decide (x.length < 400000)) = true := by
      rw [List.all_eq_true]
      intro x hx
      rw [decide_eq_true_eq]
      rcases List.mem_append.1 hx with hx | hx
      · have := flat_len (l := A ++ e :: C) x (by simp [hx]); omega
      · rcases List.mem_cons.1 hx with rfl | hx
        · omega
        · have := flat_len (l := A ++ e :: C) x (by simp [hx]); omega
    rw [if_pos hall]
    obtain ⟨ys, t1, t2, t3, t4⟩ := tail_f most hm h.ne (by omega) hsn hlen'
    refine ⟨ys, t1, t2, fun q => by rw [t3]; exact hfp q, t4, ?_⟩
    rw [t3, hfl]
    simp only [List.length_append]
    omega
/-! ### a clearing, and what does nothing -/
theorem find_filter {m : S69} (hp : pnt m = false) : ∀ (l : List S85) (q : ByteArray), find (l.filter fun e => !(tch m e.f0)) q = on m q (find l q).1 (find l q).2
  | [], q => by
    show (⟨#[]⟩, false) = on m q ⟨#[]⟩ false
    unfold on
    have h1 : ¬ m.f0 = 1 := fun h => by unfold pnt at hp; rw [h] at hp; exact absurd hp (by decide)
    have h3 : ¬ m.f0 = 3 := fun h => by unfold pnt at hp; rw [h] at hp; exact absurd hp (by decide)
    rw [if_neg h1, if_neg h3]
    split <;> rfl
  | x :: l, q => by
    have ih := find_filter hp l q
    rw [List.filter_cons, find_cons]
    by_cases hq : x.f0.toList = q.toList
    · have e : x.f0 = q := bytes_ext hq
      rw [if_pos hq]
      cases ht : tch m x.f0 with
      | false =>
        rw [if_pos (by decide), find_cons, if_pos hq]
        unfold on
        rw [← e, ht]
        rfl
      | true =>
        rw [if_neg (by decide), ih]
        have h1 : ¬ m.f0 = 1 := fun h => by unfold pnt at hp; rw [h] at hp; exact absurd hp (by decide)
        have h3 : ¬ m.f0 = 3 := fun h => by unfold pnt at hp; rw [h] at hp; exact absurd hp (by decide)
        unfold on
        rw [← e, ht, if_pos rfl, if_pos rfl, if_neg h1, if_neg h3, if_neg h1, if_neg h3]
    · rw [if_neg hq]
      cases ht : tch m x.f0 with
      | false => rw [if_pos (by decide), find_cons, if_neg hq, ih]
      | true => rw [if_neg (by decide), ih]
theorem swept_f {m : S69} (hp : pnt m = false) {k : Nat} : ∀ {b : List (List S85)}, (∀ x ∈ b, Srt x ∧ x.length < 400000 ∧ x.length + 100 < k) → leaf_Fold.swept k m b = some (b.map fun x => x.filter fun e => !(tch m e.f0))
  | [], _ => rfl
  | x :: b, h => by
    obtain ⟨h1, h2, h3⟩ := h x (List.mem_cons_self ..)
    have ih := swept_f hp (b := b) (fun y hy => h y (List.mem_cons_of_mem _ hy))
    unfold leaf_Fold.swept at *
    rw [List.mapM_cons, apply_other hp h1 h2 k h3, ih]
    rfl
theorem flat_map_filter (p : S85 → Bool) : ∀ b : List (List S85), ((b.map fun x => x.filter p).filter fun y => !(decide (y.length = 0))).flatten = b.flatten.filter p
  | [] => rfl
  | x :: b => by
    have ih := flat_map_filter p b
    rw [List.map_cons, List.filter_cons, List.flatten_cons, List.filter_append]
    by_cases h : (x.filter p).length = 0
    · rw [if_neg (by rw [decide_eq_true h]; decide), ih, List.eq_nil_of_length_eq_zero h, List.nil_append]
    · rw [if_pos (by rw [decide_eq_false h]; decide), List.flatten_cons, ih]
theorem block_srt {b : List (List S85)} (h : Srt b.flatten) : ∀ x ∈ b, Srt x := by
  intro x hx
  obtain ⟨P, Q, rfl⟩ := List.append_of_mem hx
  rw [List.flatten_append, List.flatten_cons] at h
  exact (srt_append.1 (srt_append.1 h).2.1).1
/-- what one message makes of a row -/
theorem step_f {b : List (List S85)} (h : WF b) (m : S69) (most : Int) (hm : 2 ≤ most) (hl : b.flatten.length < 10000) (k : Nat) (hk : 11000 ≤ k) : ∃ ys, leaf_Fold.step k most b m = some ys ∧ WF ys ∧ (∀ q, find ys.flatten q = on m q (find b.flatten q).1 (find b.flatten q).2) ∧ ((∀ x ∈ b, (x.length : Int) ≤ most) → ∀ x ∈ ys, (x.length : Int) ≤ most) ∧ ys.flatten.length ≤ b.flatten.length + 1 := by
  have hbl := row_len h.ne
  unfold leaf_Fold.step
  rw [if_pos (by omega), isPoint_f, Option.bind_some]
  cases hp : pnt m with
  | true =>
    rw [if_pos rfl]
    exact point_f h hp most hm hl k hk
  | false =>
    rw [if_neg (by decide)]
    have hfind := find_filter hp b.flatten
    by_cases h4 : m.f0 = 4
    · rw [if_pos h4, swept_f hp (fun x hx => ⟨block_srt h.srt x hx, by have := flat_len x hx; omega, by have := flat_len x hx; omega⟩), Option.map_some]
      have hfl := flat_map_filter (fun e => !(tch m e.f0)) b
      refine ⟨_, rfl, ⟨fun x hx => ?_, by rw [hfl]; exact h.srt.filter _⟩, fun q => by rw [hfl]; exact hfind q, fun h2 x hx => ?_, by rw [hfl]; have := List.length_filter_le (fun e => !(tch m e.f0)) b.flatten; omega⟩
      · have := (List.mem_filter.1 hx).2
        simp only [Bool.not_eq_true', decide_eq_false_iff_not] at this
        exact fun h' => this (by rw [h']; rfl)
      · obtain ⟨y, hy, rfl⟩ := List.mem_map.1 (List.mem_filter.1 hx).1
        have := h2 y hy
        have := List.length_filter_le (fun e => !(tch m e.f0)) y
        omega
    · rw [if_neg h4]
      have hid : (b.flatten.filter fun e => !(tch m e.f0)) = b.flatten := by
        refine List.filter_eq_self.2 (fun x _ => ?_)
        unfold tch
        rw [if_neg (by rw [hp]; decide), if_neg h4]
        rfl
      rw [hid] at hfind
      exact ⟨b, rfl, h, hfind, id, by omega⟩
theorem foldl_f (most : Int) (hm : 2 ≤ most) (k : Nat) (hk : 11000 ≤ k) : ∀ (ms : List S69) (b : List (List S85)), WF b → b.flatten.length + ms.length < 10000 → ∃ ys, ms.foldlM (leaf_Fold.step k most) b = some ys ∧ WF ys ∧ (∀ q, find ys.flatten q = vals ms q (find b.flatten q)) ∧ ((∀ x ∈ b, (x.length : Int) ≤ most) → ∀ x ∈ ys, (x.length : Int) ≤ most) ∧ ys.flatten.length ≤ b.flatten.length + ms.length
  | [], b, h, _ => ⟨b, rfl, h, fun _ => rfl, id, by simp⟩
  | m :: ms, b, h, hl => by
    simp only [List.length_cons] at hl
    obtain ⟨ys, y1, y2, y3, y4, y5⟩ := step_f h m most hm (by omega) k hk
    obtain ⟨zs, z1, z2, z3, z4, z5⟩ := foldl_f most hm k hk ms ys y2 (by omega)
    refine ⟨zs, ?_, z2, fun q => ?_, fun h' => z4 (y4 h'), by simp only [List.length_cons]; omega⟩
    · rw [List.foldlM_cons, y1]
      exact z1
    · rw [z3, y3]
      rfl
theorem fold_f {b : List (List S85)} (h : WF b) (ms : List S69) (most : Int) (hm : most ≤ 9223372036854775807) (hl : b.flatten.length + ms.length < 10000) (k : Nat) (hk : 11000 ≤ k) : ∃ ys, leaf_Fold.f k b ms most = some ys ∧ WF ys ∧ (∀ q, find ys.flatten q = vals ms q (find b.flatten q)) ∧ ((∀ x ∈ b, (x.length : Int) ≤ max most 2) → ∀ x ∈ ys, (x.length : Int) ≤ max most 2) ∧ ys.flatten.length ≤ b.flatten.length + ms.length := by
  have hbl := row_len h.ne
  have hfit : leaf_copied.f b = some b := by
    unfold leaf_copied.f leaf_copied.fits
    rw [decide_eq_true (show b.length < 1000000 by omega), Bool.true_and, if_pos]
    rw [List.all_eq_true]
    intro x hx
    have := flat_len x hx
    exact decide_eq_true (by omega)
  unfold leaf_Fold.f leaf_Fold.g
  rw [if_pos hm, hfit, Option.bind_some]
  exact foldl_f _ (by omega) k hk ms b h hl
end Go.Proofs.Ytpfikmchimlneaa.LfSpec
