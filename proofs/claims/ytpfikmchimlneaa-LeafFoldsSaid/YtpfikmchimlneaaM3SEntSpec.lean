/- What the document's Entries tells of many messages, key by key: a row that rises, in which each key has what the messages make of it. No condition beyond sizes. -/
import Derived.Test.YtpfikmchimlneaaM3SBlkSpec
set_option linter.unusedVariables false
set_option linter.unusedSimpArgs false
namespace Go.Proofs.Ytpfikmchimlneaa.EntSpec
open Go.RowKit Go.Proofs.Ytpfikmchimlneaa.M3 Go.Proofs.Ytpfikmchimlneaa.WordSpec Go.Proofs.Ytpfikmchimlneaa.BlkBase Go.Proofs.Ytpfikmchimlneaa.BlkSpec Go.Proofs.YtpfikmchimlneaaW.PrintWords Go.Proofs.YtpfikmchimlneaaW.PrintLast Go.Proofs.YtpfikmchimlneaaW.PrintMore Go.Proofs.YtpfikmchimlneaaW.Mine Go.Proofs.YtpfikmchimlneaaW.Ord
def Num (m : S69) : Prop := 0 ≤ m.f5 ∧ m.f5 ≤ 18446744073709551615
/-- what messages make of a key's value -/
def vals (ms : List S69) (q : ByteArray) (p : ByteArray × Bool) : ByteArray × Bool := ms.foldl (fun p m => on m q p.1 p.2) p
theorem vals_cons (m : S69) (ms : List S69) (q : ByteArray) (p : ByteArray × Bool) : vals (m :: ms) q p = vals ms q (on m q p.1 p.2) := rfl
def Nrm (p : ByteArray × Bool) : Prop := p.2 = false → p.1 = ⟨#[]⟩
theorem Nrm.eq {p : ByteArray × Bool} (h : Nrm p) (hf : p.2 = false) : p = (⟨#[]⟩, false) := Prod.ext (h hf) hf
theorem on_nrm {m : S69} {q : ByteArray} {p : ByteArray × Bool} (h : Nrm p) : Nrm (on m q p.1 p.2) := by
  unfold on
  split
  · split
    · exact fun h => by cases h
    · split
      · exact fun h => by cases h
      · exact fun _ => rfl
  · exact h
theorem vals_nrm : ∀ {ms : List S69} {q : ByteArray} {p : ByteArray × Bool}, Nrm p → Nrm (vals ms q p)
  | [], _, _, h => h
  | m :: ms, q, p, h => vals_nrm (ms := ms) (on_nrm h)
theorem find_nrm (l : List S85) (q : ByteArray) : Nrm (find l q) := find_false
theorem drop_S69 {l : List S69} {i : Nat} {x : S69} {r : List S69} (h : l.drop i = x :: r) : i < l.length ∧ rd_T69 l (i : Int) = x ∧ l.drop (i + 1) = r := by
  have hi : i < l.length := by
    rcases Nat.lt_or_ge i l.length with h0 | h0
    · exact h0
    · rw [List.drop_eq_nil_of_le h0] at h
      cases h
  rw [List.drop_eq_getElem_cons hi] at h
  injection h with h1 h2
  refine ⟨hi, ?_, h2⟩
  unfold rd_T69
  rw [Int.toNat_natCast, List.getD_eq_getElem?_getD, List.getElem?_eq_getElem hi, Option.getD_some, h1]
theorem value_loop {ms : List S69} (hl : ms.length < 1000) (q : ByteArray) : ∀ (r : List S69) (i k : Nat) (v : ByteArray) (is : Bool), ms.drop i = r → Nrm (v, is) → (∀ m ∈ r, Num m) → r.length + 30 < k → catchmentref05_Value.l0 k ms q v is (i : Int) = some (vals r q (v, is))
  | _, _, 0, _, _, _, _, _, h => absurd h (by omega)
  | [], i, k + 1, v, is, h, _, _, hk => by
    have := drop_nil h
    rw [catchmentref05_Value.l0, if_neg (by omega)]
    rfl
  | m :: r, i, k + 1, v, is, h, hn, hm, hk => by
    obtain ⟨h1, h2, h3⟩ := drop_S69 h
    simp only [List.length_cons] at hk
    rw [catchmentref05_Value.l0, if_pos (by omega), if_pos (by omega), h2, on_f m (hm m (List.mem_cons_self ..)) q v is hn k (by omega), Option.bind_some, succ_nat i (by omega), vals_cons]
    exact value_loop hl q r (i + 1) k _ _ h3 (on_nrm (p := (v, is)) hn) (fun x hx => hm x (List.mem_cons_of_mem _ hx)) (by omega)
theorem valueL_f {ms : List S69} (hl : ms.length < 1000) (hm : ∀ m ∈ ms, Num m) (q v : ByteArray) (is : Bool) (hv : Nrm (v, is)) (k : Nat) (hk : ms.length + 40 < k) : catchmentref05_Value.f k ms q v is = some (vals ms q (v, is)) := by
  obtain ⟨k, rfl⟩ : ∃ k2, k = k2 + 1 := ⟨k - 1, by omega⟩
  have hj : catchmentref05_Value.j0 (k + 1) ms q v is = some (vals ms q (v, is)) := by
    rw [catchmentref05_Value.j0]
    exact value_loop hl q ms 0 k v is (List.drop_zero ..) hv hm (by omega)
  unfold catchmentref05_Value.f
  cases is with
  | true => rw [if_pos rfl, hj]
  | false =>
    have : v = ⟨#[]⟩ := hv rfl
    subst this
    rw [if_neg (by decide), hj]
/-! ### the keys -/
def SrtK (t : List ByteArray) : Prop := t.Pairwise fun a b => L a.toList b.toList
theorem splitK (s : List UInt8) : ∀ t : List ByteArray, SrtK t → ∃ a b, t = a ++ b ∧ (∀ x ∈ a, L x.toList s) ∧ (∀ x ∈ b, ¬ L x.toList s)
  | [], _ => ⟨[], [], rfl, by simp, by simp⟩
  | x :: t, h => by
    by_cases ha : L x.toList s
    · obtain ⟨lo, hi, rfl, h1, h2⟩ := splitK s t (List.pairwise_cons.1 h).2
      refine ⟨x :: lo, hi, rfl, ?_, h2⟩
      intro y hy
      rcases List.mem_cons.1 hy with rfl | hy
      · exact ha
      · exact h1 y hy
    · refine ⟨[], x :: t, rfl, by simp, ?_⟩
      intro y hy
      rcases List.mem_cons.1 hy with rfl | hy
      · exact ha
      · exact fun hy' => ha (L_trans ((List.pairwise_cons.1 h).1 y hy) hy')
theorem into_f {t : List ByteArray} (ht : SrtK t) (s : ByteArray) (hl : t.length < 100000) (k : Nat) (hk : t.length + 3 ≤ k) : ∃ t', catchmentref05_Into.f k t s = some t' ∧ SrtK t' ∧ (∀ q, q ∈ t' ↔ q = s ∨ q ∈ t) ∧ t'.length ≤ t.length + 1 := by
  obtain ⟨a, b, rfl, h1, h2⟩ := splitK s.toList t ht
  rw [List.length_append] at hl hk
  have hp := List.pairwise_append.1 ht
  cases b with
  | nil =>
    refine ⟨a ++ s :: [], into_new h1 (fun x r h => by cases h) (by simp; omega) k (by omega), List.pairwise_append.2 ⟨hp.1, List.pairwise_singleton _ _, ?_⟩, ?_, ?_⟩
    · intro x hx y hy
      obtain rfl := List.mem_singleton.1 hy
      exact h1 x hx
    · intro q
      simp only [List.mem_append, List.mem_cons, List.not_mem_nil, or_false]
      exact or_comm
    · simp
  | cons y r =>
    have hy := h2 y (List.mem_cons_self ..)
    have hr := List.pairwise_cons.1 hp.2.1
    by_cases he : y.toList = s.toList
    · obtain rfl : y = s := bytes_ext he
      refine ⟨a ++ y :: r, into_old h1 (by simp only [List.length_cons] at hl; omega) k (by omega), ht, ?_, by simp⟩
      intro q
      simp only [List.mem_append, List.mem_cons]
      constructor
      · intro h; exact .inr h
      · rintro (h | h)
        · exact .inr (.inl h)
        · exact h
    · have hs : L s.toList y.toList := L_of_ne hy he
      refine ⟨a ++ s :: y :: r, into_new h1 (fun x r h => by injection h with h _; exact h ▸ hs) (by omega) k (by omega), List.pairwise_append.2 ⟨hp.1, List.pairwise_cons.2 ⟨?_, hp.2.1⟩, ?_⟩, ?_, by simp only [List.length_append, List.length_cons]; omega⟩
      · intro x hx
        rcases List.mem_cons.1 hx with rfl | hx
        · exact hs
        · exact L_trans hs (hr.1 x hx)
      · intro x hx z hz
        rcases List.mem_cons.1 hz with rfl | hz
        · exact h1 x hx
        · exact hp.2.2 x hx z hz
      · intro q
        simp only [List.mem_append, List.mem_cons]
        constructor
        · rintro (h | h | h)
          · exact .inr (.inl h)
          · exact .inl h
          · exact .inr (.inr h)
        · rintro (h | h | h)
          · exact .inr (.inl h)
          · exact .inl h
          · exact .inr (.inr h)
theorem keys_loop {ms : List S69} (hl : ms.length < 1000) : ∀ (r : List S69) (acc : List ByteArray) (i k : Nat), ms.drop i = r → SrtK acc → acc.length + r.length < 3000 → r.length + 4000 < k → ∃ t, catchmentref05_Keys.l0 k ms acc (i : Int) = some t ∧ SrtK t ∧ (∀ q, q ∈ t ↔ q ∈ acc ∨ ∃ m ∈ r, pnt m = true ∧ m.f2 = q) ∧ t.length ≤ acc.length + r.length
  | _, _, _, 0, _, _, _, h => absurd h (by omega)
  | [], acc, i, k + 1, h, hs, _, hk => by
    have := drop_nil h
    rw [catchmentref05_Keys.l0, if_neg (by omega)]
    exact ⟨acc, rfl, hs, fun q => ⟨.inl, fun h => h.elim id (fun ⟨_, h, _⟩ => by cases h)⟩, by simp⟩
  | m :: r, acc, i, k + 1, h, hs, ha, hk => by
    obtain ⟨h1, h2, h3⟩ := drop_S69 h
    simp only [List.length_cons] at hk ha
    rw [catchmentref05_Keys.l0, if_pos (by omega), if_pos (by omega), h2, refPoint_f, Option.bind_some, succ_nat i (by omega)]
    by_cases hp : pnt m = true
    · obtain ⟨t, t1, t2, t3, t4⟩ := into_f hs m.f2 (by omega) k (by omega)
      rw [if_pos hp, t1, Option.bind_some]
      obtain ⟨u, u1, u2, u3, u4⟩ := keys_loop hl r t (i + 1) k h3 t2 (by omega) (by omega)
      refine ⟨u, u1, u2, fun q => ?_, by simp only [List.length_cons]; omega⟩
      rw [u3, t3]
      constructor
      · rintro ((h | h) | ⟨x, hx, hx2⟩)
        · exact .inr ⟨m, List.mem_cons_self .., hp, h.symm⟩
        · exact .inl h
        · exact .inr ⟨x, List.mem_cons_of_mem _ hx, hx2⟩
      · rintro (h | ⟨x, hx, hx2, hx3⟩)
        · exact .inl (.inr h)
        · rcases List.mem_cons.1 hx with rfl | hx
          · exact .inl (.inl hx3.symm)
          · exact .inr ⟨x, hx, hx2, hx3⟩
    · rw [if_neg hp]
      obtain ⟨u, u1, u2, u3, u4⟩ := keys_loop hl r acc (i + 1) k h3 hs (by omega) (by omega)
      refine ⟨u, u1, u2, fun q => ?_, by simp only [List.length_cons]; omega⟩
      rw [u3]
      constructor
      · rintro (h | ⟨x, hx, hx2⟩)
        · exact .inl h
        · exact .inr ⟨x, List.mem_cons_of_mem _ hx, hx2⟩
      · rintro (h | ⟨x, hx, hx2, hx3⟩)
        · exact .inl h
        · rcases List.mem_cons.1 hx with rfl | hx
          · exact absurd hx2 hp
          · exact .inr ⟨x, hx, hx2, hx3⟩
theorem named_loop {l : List S85} (hl : l.length < 1500) : ∀ (r : List S85) (acc : List ByteArray) (i k : Nat), l.drop i = r → SrtK acc → acc.length + r.length < 3000 → r.length + 4000 < k → ∃ t, catchmentref05_Named.l0 k l acc (i : Int) = some t ∧ SrtK t ∧ (∀ q, q ∈ t ↔ q ∈ acc ∨ ∃ x ∈ r, x.f0 = q) ∧ t.length ≤ acc.length + r.length
  | _, _, _, 0, _, _, _, h => absurd h (by omega)
  | [], acc, i, k + 1, h, hs, _, hk => by
    have := drop_nil h
    rw [catchmentref05_Named.l0, if_neg (by omega)]
    exact ⟨acc, rfl, hs, fun q => ⟨.inl, fun h => h.elim id (fun ⟨_, h, _⟩ => by cases h)⟩, by simp⟩
  | m :: r, acc, i, k + 1, h, hs, ha, hk => by
    obtain ⟨h1, h2, h3⟩ := rd_drop h
    simp only [List.length_cons] at hk ha
    obtain ⟨t, t1, t2, t3, t4⟩ := into_f hs m.f0 (by omega) k (by omega)
    rw [named_step h (by omega), t1, Option.bind_some]
    obtain ⟨u, u1, u2, u3, u4⟩ := named_loop hl r t (i + 1) k h3 t2 (by omega) (by omega)
    refine ⟨u, u1, u2, fun q => ?_, by simp only [List.length_cons]; omega⟩
    rw [u3, t3]
    constructor
    · rintro ((h | h) | ⟨x, hx, hx2⟩)
      · exact .inr ⟨m, List.mem_cons_self .., h.symm⟩
      · exact .inl h
      · exact .inr ⟨x, List.mem_cons_of_mem _ hx, hx2⟩
    · rintro (h | ⟨x, hx, hx2⟩)
      · exact .inl (.inr h)
      · rcases List.mem_cons.1 hx with rfl | hx
        · exact .inl (.inl hx2.symm)
        · exact .inr ⟨x, hx, hx2⟩
/-! ### the entries -/
def gs (ms : List S69) (l : List S85) (q : ByteArray) : Option S85 := if (vals ms q (find l q)).2 = true then some ⟨q, (vals ms q (find l q)).1⟩ else none
theorem ents_loop {ms : List S69} (hml : ms.length < 1000) (hm : ∀ m ∈ ms, Num m) {l : List S85} (hl : l.length < 1500) {n : List ByteArray} (hn : n.length < 3000) : ∀ (r : List ByteArray) (acc : List S85) (i k : Nat), n.drop i = r → acc.length + r.length < 4000 → 2 * r.length + 4000 < k → catchmentref05_Entries.l0 k ms l acc n (i : Int) ⟨#[]⟩ ⟨#[]⟩ = some (acc ++ r.filterMap (gs ms l))
  | [], acc, i, k, h, ha, hk => by
    obtain ⟨k, rfl⟩ : ∃ k2, k = k2 + 1 := ⟨k - 1, by omega⟩
    have := drop_nil h
    rw [catchmentref05_Entries.l0, if_neg (by omega)]
    simp
  | q :: r, acc, i, k, h, ha, hk => by
    obtain ⟨k, rfl⟩ : ∃ k2, k = k2 + 2 := ⟨k - 2, by simp only [List.length_cons] at hk; omega⟩
    obtain ⟨h1, h2, h3⟩ := rdOf_drop h
    simp only [List.length_cons] at hk ha
    have hr : catchmentref02_Right.f ⟨#[]⟩ ⟨#[]⟩ = some true := by decide +kernel
    have hh : catchmentref02_Holds.f ⟨#[]⟩ ⟨#[]⟩ q = some true := by
      rw [refHolds_f]
      unfold hold
      have : Op.bytesLess q.toList (⟨#[]⟩ : ByteArray).toList = false := by rw [toList_empty]; simpa [L] using (L_nil_right (a := q.toList))
      rw [this, toList_empty]
      rfl
    rw [show k + 2 = (k + 1) + 1 from rfl, catchmentref05_Entries.l0, if_pos (by omega), if_pos (by omega), h2, find_f (by omega) q _ (by omega), Option.bind_some, valueL_f hml hm q (find l q).1 (find l q).2 (find_nrm l q) _ (by omega), Option.bind_some, hr]
    have hs := succ_nat i (by omega)
    rw [List.filterMap_cons]
    have hpe : ((find l q).1, (find l q).2) = find l q := rfl
    rw [hpe]
    by_cases hb : (vals ms q (find l q)).2 = true
    · have hg : gs ms l q = some ⟨q, (vals ms q (find l q)).1⟩ := by unfold gs; rw [if_pos hb]
      rw [if_pos hb, Option.bind_some, if_pos rfl, hh, Option.bind_some, catchmentref05_Entries.j1, if_pos rfl, if_pos (by omega), if_pos (by omega), if_pos (by omega), h2, hs, ents_loop hml hm hl hn r _ (i + 1) k h3 (by simp; omega) (by omega), hg]
      simp
    · have hg : gs ms l q = none := by unfold gs; rw [if_neg hb]
      rw [if_neg hb, catchmentref05_Entries.j1, if_neg (by decide), hs, ents_loop hml hm hl hn r _ (i + 1) k h3 (by omega) (by omega), hg]
theorem fm_srt {f : ByteArray → Option S85} (hf : ∀ q x, f q = some x → x.f0 = q) : ∀ {n : List ByteArray}, SrtK n → Srt (n.filterMap f)
  | [], _ => List.Pairwise.nil
  | q :: n, h => by
    have h0 := List.pairwise_cons.1 h
    have ih := fm_srt hf h0.2
    rw [List.filterMap_cons]
    cases hq : f q with
    | none => exact ih
    | some x =>
      refine List.pairwise_cons.2 ⟨fun y hy => ?_, ih⟩
      obtain ⟨p, hp, hy⟩ := List.mem_filterMap.1 hy
      have e1 := hf q x hq
      have e2 := hf p y hy
      unfold key
      rw [e1, e2]
      exact h0.1 p hp
theorem vals_away : ∀ {ms : List S69} {q : ByteArray}, (∀ m ∈ ms, pnt m = true → m.f2 ≠ q) → vals ms q (⟨#[]⟩, false) = (⟨#[]⟩, false)
  | [], _, _ => rfl
  | m :: ms, q, h => by
    have h1 : on m q ⟨#[]⟩ false = (⟨#[]⟩, false) := by
      unfold on
      split
      · rename_i ht
        by_cases hp : pnt m = true
        · unfold tch at ht
          rw [if_pos hp] at ht
          exact absurd (bytes_ext (beq_iff_eq.1 ht)) (h m (List.mem_cons_self ..) hp)
        · unfold pnt at hp
          simp at hp
          rw [if_neg (by omega), if_neg (by omega)]
      · rfl
    rw [vals_cons, h1]
    exact vals_away (fun x hx => h x (List.mem_cons_of_mem _ hx))
theorem ents_f {ms : List S69} (hml : ms.length < 1000) (hm : ∀ m ∈ ms, Num m) {l : List S85} (hl : l.length < 1500) (k : Nat) (hk : 11000 ≤ k) : ∃ R, catchmentref05_Entries.f k ms l ⟨#[]⟩ ⟨#[]⟩ = some R ∧ Srt R ∧ (∀ q, find R q = vals ms q (find l q)) ∧ R.length ≤ ms.length + l.length := by
  obtain ⟨a, a1, a2, a3, a4⟩ := keys_loop hml ms [] 0 k (List.drop_zero ..) List.Pairwise.nil (by simp; omega) (by omega)
  obtain ⟨n, n1, n2, n3, n4⟩ := named_loop hl l a 0 k (List.drop_zero ..) a2 (by simp at a4; omega) (by omega)
  have hnl : n.length ≤ ms.length + l.length := by simp at a4; omega
  have hE := ents_loop hml hm hl (n := n) (by omega) n [] 0 k (List.drop_zero ..) (by simp; omega) (by omega)
  rw [List.nil_append] at hE
  have hgf : ∀ q x, gs ms l q = some x → x.f0 = q := by
    intro q x h
    unfold gs at h
    split at h
    · cases h; rfl
    · cases h
  have hS := fm_srt hgf n2
  refine ⟨n.filterMap (gs ms l), ?_, hS, fun q => ?_, Nat.le_trans (List.length_filterMap_le _ _) hnl⟩
  · unfold catchmentref05_Entries.f catchmentref05_Named.f catchmentref05_Keys.f
    have a1' : catchmentref05_Keys.l0 k ms [] 0 = some a := a1
    have n1' : catchmentref05_Named.l0 k l a 0 = some n := n1
    rw [a1', Option.bind_some, n1', Option.bind_some]
    exact hE
  · have hno : ∀ {x : S85}, x ∈ n.filterMap (gs ms l) → ∃ p ∈ n, gs ms l p = some x ∧ x.f0 = p := fun hx => by
      obtain ⟨p, hp, h⟩ := List.mem_filterMap.1 hx
      exact ⟨p, hp, h, hgf p _ h⟩
    by_cases hq : q ∈ n
    · cases hg : gs ms l q with
      | some x =>
        have hx : x ∈ n.filterMap (gs ms l) := List.mem_filterMap.2 ⟨q, hq, hg⟩
        have e := hgf q x hg
        have := find_mem hS hx
        rw [e] at this
        rw [this]
        unfold gs at hg
        split at hg
        · rename_i hb
          cases hg
          exact Prod.ext rfl hb.symm
        · cases hg
      | none =>
        rw [find_no (fun x hx e => ?_)]
        · unfold gs at hg
          split at hg
          · cases hg
          · rename_i hb
            exact ((vals_nrm (find_nrm l q)).eq (Bool.eq_false_iff.2 hb)).symm
        · obtain ⟨p, _, h1, h2⟩ := hno hx
          have : x.f0 = q := bytes_ext e
          rw [← this, h2] at hg
          rw [h1] at hg
          cases hg
    · rw [find_no (fun x hx e => ?_)]
      · have h1 : find l q = (⟨#[]⟩, false) := find_no (fun x hx e => hq ((n3 q).2 (.inr ⟨x, hx, bytes_ext e⟩)))
        rw [h1, vals_away (fun m hm2 hp he => hq ((n3 q).2 (.inl ((a3 q).2 (.inr ⟨m, hm2, hp, he⟩)))))]
      · obtain ⟨p, hp, h1, h2⟩ := hno hx
        exact hq (by have : x.f0 = q := bytes_ext e; rw [← this, h2]; exact hp)
/-- rows that rise are the same if each key has the same in both -/
theorem srt_ext : ∀ {a b : List S85}, Srt a → Srt b → (∀ q, find a q = find b q) → a = b
  | [], [], _, _, _ => rfl
  | [], y :: b, _, hb, h => by
    have := h y.f0
    rw [find_mem hb (List.mem_cons_self ..)] at this
    have h2 : false = true := congrArg Prod.snd this
    cases h2
  | x :: a, [], ha, _, h => by
    have := h x.f0
    rw [find_mem ha (List.mem_cons_self ..)] at this
    have h2 : true = false := congrArg Prod.snd this
    cases h2
  | x :: a, y :: b, ha, hb, h => by
    have h1 := List.pairwise_cons.1 ha
    have h2 := List.pairwise_cons.1 hb
    have ex := h x.f0
    have ey := h y.f0
    rw [find_mem ha (List.mem_cons_self ..)] at ex
    rw [find_mem hb (List.mem_cons_self ..)] at ey
    have hin : ∀ {z : S85} {c : List S85} {v : ByteArray}, (v, true) = find c z.f0 → ∃ u ∈ c, key u = key z := by
      intro z c v hc
      rcases Classical.em (∃ u ∈ c, key u = key z) with h | h
      · exact h
      · rw [find_no (fun u hu e => h ⟨u, hu, e⟩)] at hc
        cases hc
    have hxy : key x = key y := by
      rcases L_total (key x) (key y) with hl | he | hl
      · obtain ⟨u, hu, e⟩ := hin (z := x) ex
        rcases List.mem_cons.1 hu with rfl | hu
        · exact e.symm
        · have := h2.1 u hu
          rw [e] at this
          exact absurd this (L_asymm hl)
      · exact he
      · obtain ⟨u, hu, e⟩ := hin (z := y) ey.symm
        rcases List.mem_cons.1 hu with rfl | hu
        · exact e
        · have := h1.1 u hu
          rw [e] at this
          exact absurd this (L_asymm hl)
    have e0 : x.f0 = y.f0 := bytes_ext hxy
    have e1 : x.f1 = y.f1 := by
      rw [find_cons, if_pos (by rw [e0])] at ex
      exact (Prod.mk.inj ex).1
    have exy : x = y := by
      cases x; cases y
      cases e0; cases e1
      rfl
    subst exy
    rw [srt_ext h1.2 h2.2 (fun q => ?_)]
    have := h q
    rw [find_cons, find_cons] at this
    by_cases hq : x.f0.toList = q.toList
    · have hx0 : x.f0 = q := bytes_ext hq
      rw [find_no (fun u hu e => ?_), find_no (fun u hu e => ?_)]
      · have := h2.1 u hu
        rw [e, ← hq] at this
        exact L_irrefl _ this
      · have := h1.1 u hu
        rw [e, ← hq] at this
        exact L_irrefl _ this
    · rwa [if_neg hq, if_neg hq] at this
end Go.Proofs.Ytpfikmchimlneaa.EntSpec
