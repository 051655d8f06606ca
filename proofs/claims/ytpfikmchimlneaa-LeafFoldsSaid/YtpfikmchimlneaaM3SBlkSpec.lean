/- What the functions on blocks compute, in plain words: where a key stands, what becomes of a block by a key, a range, a message; the document's answers alike. -/
import Derived.Test.YtpfikmchimlneaaM3x35
import Derived.Test.YtpfikmchimlneaaM3x78
import Derived.Test.YtpfikmchimlneaaM3x63
import Derived.Test.YtpfikmchimlneaaM3P0
import Derived.Test.YtpfikmchimlneaaM3SWordSpec
import Derived.Test.YtpfikmchimlneaaM3SBlkBase
import Derived.Test.YtpfikmchimlneaaM3V0
set_option linter.unusedVariables false
set_option linter.unusedSimpArgs false
namespace Go.Proofs.Ytpfikmchimlneaa.BlkSpec
open Go.RowKit Go.Proofs.Ytpfikmchimlneaa.M3 Go.Proofs.Ytpfikmchimlneaa.WordSpec Go.Proofs.Ytpfikmchimlneaa.BlkBase Go.Proofs.YtpfikmchimlneaaW.PrintWords Go.Proofs.YtpfikmchimlneaaW.PrintLast Go.Proofs.YtpfikmchimlneaaW.PrintMore Go.Proofs.YtpfikmchimlneaaW.Mine Go.Proofs.YtpfikmchimlneaaW.Ord
/-! ### the document's row of keys -/
def ks (l : List S85) : List ByteArray := l.map (·.f0)
theorem into_skip {t a b : List ByteArray} {s : ByteArray} (e : t = a ++ b) (ha : ∀ x ∈ a, L x.toList s.toList) (hb : ∀ x r, b = x :: r → ¬ L x.toList s.toList) (ht : t.length < 400000) (k : Nat) : ∀ (d i : Nat), i + d = a.length → catchmentref05_Into.l0 (d + 1 + k) t s (i : Int) = catchmentref05_Into.j1 k t s (a.length : Int)
  | 0, i, h => by
    obtain rfl : i = a.length := by omega
    rw [show 0 + 1 + k = k + 1 by omega, catchmentref05_Into.l0]
    cases b with
    | nil => rw [if_neg (by rw [e]; simp)]
    | cons x r =>
      have e2 : t.drop a.length = x :: r := by rw [e, List.drop_left' rfl]
      obtain ⟨h1, h2, _⟩ := rdOf_drop e2
      rw [if_pos (by omega), if_pos (by omega), h2, if_neg (hb x r rfl)]
  | d + 1, i, h => by
    have hi : i < a.length := by omega
    have hlen : a.length ≤ t.length := by rw [e, List.length_append]; omega
    have e2 : t.drop i = a[i] :: (a.drop (i + 1) ++ b) := by rw [e, List.drop_append_of_le_length (by omega), List.drop_eq_getElem_cons hi]; rfl
    obtain ⟨h1, h2, _⟩ := rdOf_drop e2
    rw [show d + 1 + 1 + k = (d + 1 + k) + 1 by omega, catchmentref05_Into.l0, if_pos (by omega), if_pos (by omega), h2, if_pos (ha _ (List.getElem_mem _)), succ_nat _ (by omega)]
    exact into_skip e ha hb ht k d (i + 1) (by omega)
theorem into_new {a b : List ByteArray} {s : ByteArray} (ha : ∀ x ∈ a, L x.toList s.toList) (hb : ∀ x r, b = x :: r → L s.toList x.toList) (hl : a.length + b.length < 400000) (k : Nat) (hk : a.length + 2 ≤ k) : catchmentref05_Into.f k (a ++ b) s = some (a ++ s :: b) := by
  unfold catchmentref05_Into.f
  obtain ⟨k2, rfl⟩ : ∃ k2, k = a.length + 1 + (k2 + 1) := ⟨k - a.length - 2, by omega⟩
  rw [show (0 : Int) = ((0 : Nat) : Int) from rfl, into_skip rfl ha (fun x r h => L_asymm (hb x r h)) (by rw [List.length_append]; omega) (k2 + 1) a.length 0 (by omega), catchmentref05_Into.j1]
  cases b with
  | nil =>
    rw [if_neg (by simp), Option.bind_some, if_pos (by omega), if_pos (by simp), Option.bind_some, List.append_nil, Int.toNat_natCast, List.take_length, List.drop_length]
    rw [if_pos (by simp; omega), Option.bind_some, if_pos (by simp; omega), Option.bind_some, Option.bind_some, if_pos (by simp; omega)]
    simp
  | cons x r =>
    have e2 : (a ++ x :: r).drop a.length = x :: r := by rw [List.drop_left' rfl]
    obtain ⟨h1, h2, _⟩ := rdOf_drop e2
    have hx := hb x r rfl
    rw [if_pos (by omega), if_pos (by omega), h2, if_neg (fun h => by rw [h] at hx; exact L_irrefl _ hx), Option.bind_some, if_pos (by omega), Option.bind_some, Int.toNat_natCast, List.take_left' rfl, e2]
    simp only [List.length_cons] at hl
    rw [if_pos (by simp; omega), Option.bind_some, if_pos (by simp; omega), Option.bind_some, Option.bind_some, if_pos (by simp; omega)]
    simp
theorem into_old {a b : List ByteArray} {s : ByteArray} (ha : ∀ x ∈ a, L x.toList s.toList) (hl : a.length + b.length < 300000) (k : Nat) (hk : a.length + 2 ≤ k) : catchmentref05_Into.f k (a ++ s :: b) s = some (a ++ s :: b) := by
  unfold catchmentref05_Into.f
  obtain ⟨k2, rfl⟩ : ∃ k2, k = a.length + 1 + (k2 + 1) := ⟨k - a.length - 2, by omega⟩
  rw [show (0 : Int) = ((0 : Nat) : Int) from rfl, into_skip rfl ha (fun x r h => by injection h with h1 h2; rw [← h1]; exact L_irrefl _) (by rw [List.length_append, List.length_cons]; omega) (k2 + 1) a.length 0 (by omega), catchmentref05_Into.j1]
  have e2 : (a ++ s :: b).drop a.length = s :: b := by rw [List.drop_left' rfl]
  obtain ⟨h1, h2, _⟩ := rdOf_drop e2
  rw [if_pos (by omega), if_pos (by omega), h2, if_pos rfl]
theorem named_step {l : List S85} {i : Nat} {x : S85} {r : List S85} (h : l.drop i = x :: r) (hl : l.length < 400000) (k : Nat) (acc : List ByteArray) : catchmentref05_Named.l0 (k + 1) l acc (i : Int) = (catchmentref05_Into.f k acc x.f0).bind fun t => catchmentref05_Named.l0 k l t ((i + 1 : Nat) : Int) := by
  obtain ⟨h1, h2, _⟩ := rd_drop h
  rw [catchmentref05_Named.l0, if_pos (by omega), if_pos (by omega), h2, succ_nat _ (by omega)]
theorem named_tail {l : List S85} (hl : l.length < 100) : ∀ (r : List S85) (acc : List ByteArray) (i k : Nat), l.drop i = r → Srt r → (∀ a ∈ acc, ∀ x ∈ r, L a.toList (key x)) → acc.length + r.length < 200 → 250 + r.length < k → catchmentref05_Named.l0 k l acc (i : Int) = some (acc ++ ks r)
  | _, _, _, 0, _, _, _, _, h => absurd h (by omega)
  | [], acc, i, k + 1, h, hs, ha, hn, hk => by
    have := drop_nil h
    rw [catchmentref05_Named.l0, if_neg (by omega)]
    simp [ks]
  | x :: r, acc, i, k + 1, h, hs, ha, hn, hk => by
    have hx := List.pairwise_cons.1 hs
    simp only [List.length_cons] at hn hk
    have h1 := into_new (a := acc) (b := []) (s := x.f0) (fun a h => ha a h x (List.mem_cons_self ..)) (by simp) (by simp; omega) k (by omega)
    rw [List.append_nil] at h1
    rw [named_step h (by omega), h1, Option.bind_some, named_tail hl r (acc ++ [x.f0]) (i + 1) k (rd_drop h).2.2 hx.2 ?_ (by simp; omega) (by omega)]
    · simp [ks]
    · intro a ha2 y hy
      rcases List.mem_append.1 ha2 with h3 | h3
      · exact ha a h3 y (List.mem_cons_of_mem _ hy)
      · rw [List.mem_singleton.1 h3]
        exact hx.1 y hy
theorem named_lo {l : List S85} (hl : l.length < 100) {s : ByteArray} {rest : List S85} : ∀ (r : List S85) (acc : List ByteArray) (i k : Nat), l.drop i = r ++ rest → Srt r → (∀ x ∈ r, L (key x) s.toList) → (∀ a ∈ acc, ∀ x ∈ r, L a.toList (key x)) → acc.length + r.length < 200 → 250 < k → catchmentref05_Named.l0 (r.length + k) l (acc ++ [s]) (i : Int) = catchmentref05_Named.l0 k l (acc ++ ks r ++ [s]) ((i + r.length : Nat) : Int)
  | [], acc, i, k, h, hs, hr, ha, hn, hk => by simp [ks]
  | x :: r, acc, i, k, h, hs, hr, ha, hn, hk => by
    have hx := List.pairwise_cons.1 hs
    simp only [List.length_cons] at hn
    have h1 := into_new (a := acc) (b := [s]) (s := x.f0) (fun a h => ha a h x (List.mem_cons_self ..)) (by intro y r h; injection h with h1 h2; rw [← h1]; exact hr x (List.mem_cons_self ..)) (by simp; omega) (r.length + k) (by omega)
    rw [show (x :: r).length + k = (r.length + k) + 1 by simp only [List.length_cons]; omega, named_step (show l.drop i = x :: (r ++ rest) from h) (by omega), h1, Option.bind_some, show acc ++ x.f0 :: [s] = (acc ++ [x.f0]) ++ [s] by simp, named_lo hl r (acc ++ [x.f0]) (i + 1) k (rd_drop (show l.drop i = x :: (r ++ rest) from h)).2.2 hx.2 (fun y hy => hr y (List.mem_cons_of_mem _ hy)) ?_ (by simp; omega) hk]
    · rw [show i + 1 + r.length = i + (x :: r).length by simp only [List.length_cons]; omega]
      simp [ks]
    · intro a ha2 y hy
      rcases List.mem_append.1 ha2 with h3 | h3
      · exact ha a h3 y (List.mem_cons_of_mem _ hy)
      · rw [List.mem_singleton.1 h3]
        exact hx.1 y hy
theorem named_point {l lo hi : List S85} {s : ByteArray} {o : Option ByteArray} (P : Parts l s lo o hi) (hl : l.length < 100) (k : Nat) (hk : 500 ≤ k) : catchmentref05_Named.l0 k l [s] 0 = some (ks lo ++ s :: ks hi) := by
  have e := P.eq
  have hlen := congrArg List.length e
  simp only [List.length_append] at hlen
  have hs := P.srt
  unfold Srt at hs
  rw [e, List.pairwise_append] at hs
  have hslo := (List.pairwise_append.1 hs.1).1
  have hshi := hs.2.1
  obtain ⟨k2, rfl⟩ : ∃ k2, k = lo.length + k2 := ⟨k - lo.length, by omega⟩
  have h1 := named_lo hl (s := s) (rest := md s o ++ hi) lo [] 0 k2 (by rw [List.drop_zero, e, List.append_assoc]) hslo P.lt (by simp) (by simp; omega) (by omega)
  rw [List.nil_append, List.nil_append, Nat.zero_add] at h1
  rw [show (0 : Int) = ((0 : Nat) : Int) from rfl, h1]
  have htl : ∀ a ∈ ks lo ++ [s], ∀ x ∈ hi, L a.toList (key x) := by
    intro a ha x hx
    rcases List.mem_append.1 ha with h3 | h3
    · obtain ⟨y, hy, rfl⟩ := List.mem_map.1 h3
      exact L_trans (P.lt y hy) (P.gt x hx)
    · rw [List.mem_singleton.1 h3]
      exact P.gt x hx
  cases o with
  | none =>
    rw [md_none, List.append_nil] at e
    rw [named_tail hl hi (ks lo ++ [s]) lo.length k2 (by rw [e, List.drop_left' rfl]) hshi htl (by simp [ks]; omega) (by omega)]
    simp
  | some v =>
    rw [md_some, List.append_assoc] at e
    have hd : l.drop lo.length = ⟨s, v⟩ :: hi := by rw [e, List.drop_left' rfl]; rfl
    obtain ⟨k3, rfl⟩ : ∃ k3, k2 = k3 + 1 := ⟨k2 - 1, by omega⟩
    have h2 := into_old (a := ks lo) (b := []) (s := s) (by intro a ha; obtain ⟨y, hy, rfl⟩ := List.mem_map.1 ha; exact P.lt y hy) (by simp [ks]; omega) k3 (by simp [ks]; omega)
    rw [named_step hd (by omega), h2, Option.bind_some, named_tail hl hi (ks lo ++ [s]) (lo.length + 1) k3 (rd_drop hd).2.2 hshi htl (by simp [ks]; omega) (by omega)]
    simp
/-! ### what a message does -/
def pnt (m : S69) : Bool := decide (1 ≤ m.f0) && decide (m.f0 ≤ 3)
theorem refPoint_f (m : S69) : catchmentref04_Point.f m.f0 m.f1 m.f2 m.f3 m.f4 m.f5 = some (pnt m) := by
  unfold catchmentref04_Point.f pnt
  by_cases h : 1 ≤ m.f0
  · rw [if_pos h, decide_eq_true h, Bool.true_and]
  · rw [if_neg h, decide_eq_false h, Bool.false_and]
theorem isPoint_f (m : S69) : msg_IsPoint.f m.f0 m.f1 m.f2 m.f3 m.f4 m.f5 = some (pnt m) := by
  unfold msg_IsPoint.f pnt
  by_cases h1 : m.f0 = 1
  · rw [if_pos h1, h1]; rfl
  · rw [if_neg h1]
    by_cases h2 : m.f0 = 2
    · rw [if_pos h2, h2]; rfl
    · rw [if_neg h2]
      by_cases h3 : m.f0 = 3
      · rw [h3]; rfl
      · congr 1
        rw [beq_eq_false_iff_ne.2 h3, eq_comm, Bool.and_eq_false_iff, decide_eq_false_iff_not, decide_eq_false_iff_not]
        omega
theorem keys_f (m : S69) (k : Nat) (hk : 10 ≤ k) : catchmentref05_Keys.f k [m] = some (if pnt m = true then [m.f2] else []) := by
  obtain ⟨k, rfl⟩ : ∃ k2, k = k2 + 2 := ⟨k - 2, by omega⟩
  unfold catchmentref05_Keys.f
  rw [catchmentref05_Keys.l0, if_pos (by simp), if_pos (by omega), show rd_T69 [m] 0 = m from rfl, refPoint_f, Option.bind_some]
  have hend : ∀ acc, catchmentref05_Keys.l0 (k + 1) [m] acc (wrap64 (0 + 1)) = some acc := by
    intro acc
    rw [catchmentref05_Keys.l0, if_neg (by rw [wrap64_id (by omega) (by omega)]; simp)]
  by_cases hp : pnt m = true
  · have h1 := into_new (a := []) (b := []) (s := m.f2) (by simp) (by simp) (by simp) (k + 1) (by simp; omega)
    rw [List.append_nil] at h1
    rw [if_pos hp, if_pos hp, h1, Option.bind_some, hend]
    rfl
  · rw [if_neg hp, if_neg hp, hend]
theorem refHolds_f (a b q : ByteArray) : catchmentref02_Holds.f a b q = some (hold a.toList b.toList q.toList) := by
  unfold catchmentref02_Holds.f hold
  by_cases h : Op.bytesLess q.toList a.toList = true
  · rw [if_pos h, h]; rfl
  · rw [if_neg h, Bool.eq_false_iff.2 h]
    by_cases h2 : b.toList = []
    · rw [if_pos h2, h2]; rfl
    · rw [if_neg h2]
      have : b.toList.isEmpty = false := by simpa using h2
      rw [this]; rfl
def tch (m : S69) (q : ByteArray) : Bool := if pnt m = true then m.f2.toList == q.toList else if m.f0 = 4 then hold m.f2.toList m.f3.toList q.toList else false
theorem refTouches_f (m : S69) (q : ByteArray) : catchmentref04_Touches.f m.f0 m.f1 m.f2 m.f3 m.f4 m.f5 q = some (tch m q) := by
  unfold catchmentref04_Touches.f tch
  rw [refPoint_f, Option.bind_some]
  by_cases h : pnt m = true
  · rw [if_pos h, if_pos h]
  · rw [if_neg h, if_neg h]
    by_cases h2 : m.f0 = 4
    · rw [if_pos h2, if_pos h2]
      unfold hold
      by_cases h : Op.bytesLess q.toList m.f2.toList = true
      · rw [if_pos h, h]; rfl
      · rw [if_neg h, Bool.eq_false_iff.2 h]
        by_cases h2 : m.f3.toList = []
        · rw [if_pos h2, h2]; rfl
        · rw [if_neg h2]
          have : m.f3.toList.isEmpty = false := by simpa using h2
          rw [this]; rfl
    · rw [if_neg h2, if_neg h2]
def on (m : S69) (q v : ByteArray) (is : Bool) : ByteArray × Bool := if tch m q = true then (if m.f0 = 1 then (m.f4, true) else if m.f0 = 3 then (add v is m.f5, true) else (⟨#[]⟩, false)) else (v, is)
theorem on_f (m : S69) (hm : 0 ≤ m.f5 ∧ m.f5 ≤ 18446744073709551615) (q v : ByteArray) (is : Bool) (hv : is = false → v = ⟨#[]⟩) (k : Nat) (hk : 20 ≤ k) : catchmentref04_On.f k m.f0 m.f1 m.f2 m.f3 m.f4 m.f5 q v is = some (on m q v is) := by
  obtain ⟨k, rfl⟩ : ∃ k2, k = k2 + 1 := ⟨k - 1, by omega⟩
  have hj : catchmentref04_On.j0 (k + 1) q v is m.f0 m.f1 m.f2 m.f3 m.f4 m.f5 = some (on m q v is) := by
    rw [catchmentref04_On.j0, refTouches_f, Option.bind_some]
    unfold on
    by_cases h : tch m q = true
    · rw [if_pos h, if_pos h]
      by_cases h1 : m.f0 = 1
      · rw [if_pos h1, if_pos h1]
      · rw [if_neg h1, if_neg h1]
        by_cases h3 : m.f0 = 3
        · rw [if_pos h3, if_pos h3, refAdd_f k (by omega) v is m.f5 hm.1 hm.2, Option.bind_some]
        · rw [if_neg h3, if_neg h3]
    · rw [if_neg h, if_neg h]
  unfold catchmentref04_On.f
  cases is with
  | true => rw [if_pos rfl, hj]
  | false =>
    obtain rfl := hv rfl
    rw [if_neg (by decide), hj]
theorem value_f (m : S69) (hm : 0 ≤ m.f5 ∧ m.f5 ≤ 18446744073709551615) (q v : ByteArray) (is : Bool) (hv : is = false → v = ⟨#[]⟩) (k : Nat) (hk : 30 ≤ k) : catchmentref05_Value.f k [m] q v is = some (on m q v is) := by
  obtain ⟨k, rfl⟩ : ∃ k2, k = k2 + 3 := ⟨k - 3, by omega⟩
  have hj : catchmentref05_Value.j0 (k + 3) [m] q v is = some (on m q v is) := by
    rw [catchmentref05_Value.j0, catchmentref05_Value.l0, if_pos (by simp), if_pos (by omega), show rd_T69 [m] 0 = m from rfl, on_f m hm q v is hv _ (by omega), Option.bind_some, catchmentref05_Value.l0, if_neg (by rw [wrap64_id (by omega) (by omega)]; simp)]
  unfold catchmentref05_Value.f
  cases is with
  | true => rw [if_pos rfl, hj]
  | false =>
    obtain rfl := hv rfl
    rw [if_neg (by decide), hj]
def find (l : List S85) (q : ByteArray) : ByteArray × Bool := match l.find? (fun e => e.f0.toList == q.toList) with | some e => (e.f1, true) | none => (⟨#[]⟩, false)
theorem find_cons (x : S85) (r : List S85) (q : ByteArray) : find (x :: r) q = if x.f0.toList = q.toList then (x.f1, true) else find r q := by
  unfold find
  rw [List.find?_cons]
  by_cases h : x.f0.toList = q.toList
  · rw [if_pos h, beq_iff_eq.2 h]
  · rw [if_neg h, beq_eq_false_iff_ne.2 h]
theorem find_loop {l : List S85} (hl : l.length < 400000) (q : ByteArray) : ∀ (r : List S85) (i k : Nat), l.drop i = r → r.length < k → catchmentref05_Find.l0 k l q (i : Int) = some (find r q)
  | _, _, 0, _, h => absurd h (by omega)
  | [], i, k + 1, h, hk => by
    have := drop_nil h
    rw [catchmentref05_Find.l0, if_neg (by omega)]
    rfl
  | x :: r, i, k + 1, h, hk => by
    obtain ⟨h1, h2, h3⟩ := rd_drop h
    simp only [List.length_cons] at hk
    rw [catchmentref05_Find.l0, if_pos (by omega), if_pos (by omega), h2, find_cons, succ_nat _ (by omega), find_loop hl q r (i + 1) k h3 (by omega)]
    by_cases h : x.f0.toList = q.toList
    · rw [if_pos h, if_pos h]
    · rw [if_neg h, if_neg h]
theorem find_f {l : List S85} (hl : l.length < 400000) (q : ByteArray) (k : Nat) (hk : l.length < k) : catchmentref05_Find.f k l q = some (find l q) := find_loop hl q l 0 k (List.drop_zero ..) hk
theorem find_false {l : List S85} {q : ByteArray} (h : (find l q).2 = false) : (find l q).1 = ⟨#[]⟩ := by
  unfold find at *
  split
  · rename_i e he
    rw [he] at h
    cases h
  · rfl
theorem find_mem : ∀ {l : List S85}, Srt l → ∀ {x : S85}, x ∈ l → find l x.f0 = (x.f1, true)
  | a :: t, h, x, hx => by
    rw [find_cons]
    rcases List.mem_cons.1 hx with rfl | hx
    · rw [if_pos rfl]
    · have h1 := List.pairwise_cons.1 h
      have h2 := h1.1 x hx
      rw [if_neg (fun e => by unfold key at h2; rw [e] at h2; exact L_irrefl _ h2)]
      exact find_mem h1.2 hx
theorem find_no : ∀ {l : List S85} {q : ByteArray}, (∀ x ∈ l, key x ≠ q.toList) → find l q = (⟨#[]⟩, false)
  | [], _, _ => rfl
  | a :: t, q, h => by
    rw [find_cons, if_neg (show ¬ a.f0.toList = q.toList from h a (List.mem_cons_self ..))]
    exact find_no (fun x hx => h x (List.mem_cons_of_mem _ hx))
def g (m : S69) (l : List S85) (q : ByteArray) : Option S85 := if (on m q (find l q).1 (find l q).2).2 = true then some ⟨q, (on m q (find l q).1 (find l q).2).1⟩ else none
theorem ent_loop (m : S69) (hm : 0 ≤ m.f5 ∧ m.f5 ≤ 18446744073709551615) {l : List S85} (hl : l.length < 100) {n : List ByteArray} (hn : n.length < 200) : ∀ (r : List ByteArray) (acc : List S85) (i k : Nat), n.drop i = r → acc.length + r.length < 300 → 2 * r.length + 200 < k → catchmentref05_Entries.l0 k [m] l acc n (i : Int) ⟨#[]⟩ ⟨#[]⟩ = some (acc ++ r.filterMap (g m l))
  | [], acc, i, k, h, ha, hk => by
    obtain ⟨k, rfl⟩ : ∃ k2, k = k2 + 1 := ⟨k - 1, by omega⟩
    have := drop_nil h
    rw [catchmentref05_Entries.l0, if_neg (by omega)]
    simp
  | q :: r, acc, i, k, h, ha, hk => by
    obtain ⟨k, rfl⟩ : ∃ k2, k = k2 + 2 := ⟨k - 2, by simp only [List.length_cons] at hk; omega⟩
    obtain ⟨h1, h2, h3⟩ := rdOf_drop h
    simp only [List.length_cons] at hk ha
    have hr : catchmentref02_Right.f ⟨#[]⟩ ⟨#[]⟩ = some true := by decide +kernel
    have hh : catchmentref02_Holds.f ⟨#[]⟩ ⟨#[]⟩ q = some true := by
      rw [refHolds_f]
      unfold hold
      have : Op.bytesLess q.toList (⟨#[]⟩ : ByteArray).toList = false := by rw [toList_empty]; simpa [L] using (L_nil_right (a := q.toList))
      rw [this, toList_empty]
      rfl
    rw [show k + 2 = (k + 1) + 1 from rfl, catchmentref05_Entries.l0, if_pos (by omega), if_pos (by omega), h2, find_f (by omega) q _ (by omega), Option.bind_some, value_f m hm q _ _ find_false _ (by omega), Option.bind_some, hr]
    have hs := succ_nat i (by omega)
    rw [List.filterMap_cons]
    by_cases hb : (on m q (find l q).1 (find l q).2).2 = true
    · have hg : g m l q = some ⟨q, (on m q (find l q).1 (find l q).2).1⟩ := by unfold g; rw [if_pos hb]
      rw [if_pos hb, Option.bind_some, if_pos rfl, hh, Option.bind_some, catchmentref05_Entries.j1, if_pos rfl, if_pos (by omega), if_pos (by omega), if_pos (by omega), h2, hs, ent_loop m hm hl hn r _ (i + 1) k h3 (by simp; omega) (by omega), hg]
      simp
    · have hg : g m l q = none := by unfold g; rw [if_neg hb]
      rw [if_neg hb, catchmentref05_Entries.j1, if_neg (by decide), hs, ent_loop m hm hl hn r _ (i + 1) k h3 (by omega) (by omega), hg]
theorem fm_id {f : ByteArray → Option S85} : ∀ {r : List S85}, (∀ x ∈ r, f x.f0 = some x) → (ks r).filterMap f = r
  | [], _ => rfl
  | x :: r, h => by
    unfold ks
    rw [List.map_cons, List.filterMap_cons, h x (List.mem_cons_self ..)]
    exact congrArg (x :: ·) (fm_id (r := r) (fun y hy => h y (List.mem_cons_of_mem _ hy)))
theorem fm_filter {f : ByteArray → Option S85} {p : S85 → Bool} : ∀ {r : List S85}, (∀ x ∈ r, f x.f0 = if p x = true then some x else none) → (ks r).filterMap f = r.filter p
  | [], _ => rfl
  | x :: r, h => by
    unfold ks
    have ih := fm_filter (r := r) (fun y hy => h y (List.mem_cons_of_mem _ hy))
    unfold ks at ih
    rw [List.map_cons, List.filterMap_cons, h x (List.mem_cons_self ..), List.filter_cons]
    by_cases hp : p x = true
    · rw [if_pos hp, if_pos hp]
      exact congrArg (x :: ·) ih
    · rw [if_neg hp, if_neg hp]
      exact ih
/-- the value behind a point -/
def eff (m : S69) (s : ByteArray) (o : Option ByteArray) : Option ByteArray := if (on m s (o.getD ⟨#[]⟩) o.isSome).2 = true then some (on m s (o.getD ⟨#[]⟩) o.isSome).1 else none
theorem ent_point {m : S69} (hm : 0 ≤ m.f5 ∧ m.f5 ≤ 18446744073709551615) (hp : pnt m = true) {l lo hi : List S85} {o : Option ByteArray} (P : Parts l m.f2 lo o hi) (hl : l.length < 100) (k : Nat) (hk : 1000 ≤ k) : catchmentref05_Entries.f k [m] l ⟨#[]⟩ ⟨#[]⟩ = some (lo ++ md m.f2 (eff m m.f2 o) ++ hi) := by
  have hlen := congrArg List.length P.eq
  simp only [List.length_append] at hlen
  unfold catchmentref05_Entries.f catchmentref05_Named.f
  rw [keys_f m k (by omega), if_pos hp, Option.bind_some, named_point P hl k (by omega), Option.bind_some, show (0 : Int) = ((0 : Nat) : Int) from rfl, ent_loop m hm hl (by simp [ks]; omega) _ [] 0 k (List.drop_zero ..) (by simp [ks]; omega) (by simp [ks]; omega), List.nil_append, List.filterMap_append, List.filterMap_cons]
  have hne : ∀ x ∈ l, key x ≠ m.f2.toList → g m l x.f0 = some x := by
    intro x hx hk2
    have ht : tch m x.f0 = false := by
      unfold tch
      rw [if_pos hp, beq_eq_false_iff_ne]
      exact fun h => hk2 h.symm
    unfold g on
    rw [find_mem P.srt hx, ht]
    rfl
  have hmlo : ∀ x ∈ lo, x ∈ l := fun x hx => by rw [P.eq]; simp [hx]
  have hmhi : ∀ x ∈ hi, x ∈ l := fun x hx => by rw [P.eq]; simp [hx]
  have hlo : (ks lo).filterMap (g m l) = lo := fm_id (fun x hx => hne x (hmlo x hx) (fun e => by have := P.lt x hx; rw [e] at this; exact L_irrefl _ this))
  have hhi : (ks hi).filterMap (g m l) = hi := fm_id (fun x hx => hne x (hmhi x hx) (fun e => by have := P.gt x hx; rw [e] at this; exact L_irrefl _ this))
  have hfs : find l m.f2 = (o.getD ⟨#[]⟩, o.isSome) := by
    cases o with
    | some v => exact find_mem P.srt (x := ⟨m.f2, v⟩) (by rw [P.eq]; simp [md])
    | none =>
      refine find_no (fun x hx e => ?_)
      rw [P.eq, md_none, List.append_nil] at hx
      rcases List.mem_append.1 hx with h | h
      · have := P.lt x h; rw [e] at this; exact L_irrefl _ this
      · have := P.gt x h; rw [e] at this; exact L_irrefl _ this
  rw [hlo, hhi]
  unfold g eff
  rw [hfs]
  by_cases hb : (on m m.f2 (o.getD ⟨#[]⟩) o.isSome).2 = true
  · rw [if_pos hb, if_pos hb, md_some, List.append_assoc]
    rfl
  · rw [if_neg hb, if_neg hb, md_none, List.append_nil]
theorem ent_other {m : S69} (hm : 0 ≤ m.f5 ∧ m.f5 ≤ 18446744073709551615) (hp : pnt m = false) {l : List S85} (hs : Srt l) (hl : l.length < 100) (k : Nat) (hk : 1000 ≤ k) : catchmentref05_Entries.f k [m] l ⟨#[]⟩ ⟨#[]⟩ = some (l.filter fun e => !(tch m e.f0)) := by
  unfold catchmentref05_Entries.f catchmentref05_Named.f
  rw [keys_f m k (by omega), if_neg (by rw [hp]; decide), Option.bind_some, show (0 : Int) = ((0 : Nat) : Int) from rfl, named_tail hl l [] 0 k (List.drop_zero ..) hs (by simp) (by simp; omega) (by omega), Option.bind_some, List.nil_append, ent_loop m hm hl (by simp [ks]; omega) _ [] 0 k (List.drop_zero ..) (by simp [ks]; omega) (by simp [ks]; omega), List.nil_append]
  congr 1
  refine fm_filter (fun x hx => ?_)
  unfold g on
  rw [find_mem hs hx]
  have hnp : m.f0 ≠ 1 ∧ m.f0 ≠ 3 := by
    unfold pnt at hp
    simp at hp
    omega
  rw [if_neg hnp.1, if_neg hnp.2]
  cases tch m x.f0 <;> rfl
theorem tch_own {m : S69} (hp : pnt m = true) : tch m m.f2 = true := by
  unfold tch
  rw [if_pos hp]
  simp
theorem msgApply_f {m : S69} (hp : pnt m = true) (v : ByteArray) (is : Bool) (k : Nat) (hk : 20 ≤ k) : msg_Apply.f k m.f0 m.f1 m.f2 m.f3 m.f4 m.f5 v is = some (on m m.f2 v is) := by
  obtain ⟨k, rfl⟩ : ∃ k2, k = k2 + 1 := ⟨k - 1, by omega⟩
  unfold msg_Apply.f on
  rw [if_pos (tch_own hp)]
  by_cases h1 : m.f0 = 1
  · rw [if_pos h1, if_pos h1]
  · rw [if_neg h1, if_neg h1]
    by_cases h3 : m.f0 = 3
    · rw [if_pos h3, if_pos h3, add_f (k + 1) (by omega), Option.bind_some]
    · rw [if_neg h3, if_neg h3]
      have h2 : m.f0 = 2 := by
        unfold pnt at hp
        simp at hp
        omega
      rw [if_pos h2, h2, msg_Apply.j0]
      rfl
theorem apply_point {m : S69} (hp : pnt m = true) {l lo hi : List S85} {o : Option ByteArray} (P : Parts l m.f2 lo o hi) (hl : l.length < 400000) (k : Nat) (hk : l.length + 100 < k) : block_Apply.f k l m.f0 m.f1 m.f2 m.f3 m.f4 m.f5 = some (lo ++ md m.f2 (eff m m.f2 o) ++ hi) := by
  obtain ⟨k, rfl⟩ : ∃ k2, k = k2 + 1 := ⟨k - 1, by omega⟩
  have h4 : ¬ m.f0 = 4 := by
    unfold pnt at hp
    simp at hp
    omega
  have hj : block_Apply.j0 (k + 1) l (o.getD ⟨#[]⟩) o.isSome m.f0 m.f1 m.f2 m.f3 m.f4 m.f5 = some (lo ++ md m.f2 (eff m m.f2 o) ++ hi) := by
    rw [block_Apply.j0, msgApply_f hp _ _ k (by omega), Option.bind_some]
    unfold eff
    by_cases hb : (on m m.f2 (o.getD ⟨#[]⟩) o.isSome).2 = true
    · rw [if_pos hb, if_pos hb, put_f P hl k (by omega), Option.bind_some]
    · rw [if_neg hb, if_neg hb, drop_f P hl k (by omega), Option.bind_some, md_none, List.append_nil]
  unfold block_Apply.f
  rw [if_neg h4, isPoint_f, Option.bind_some, if_pos hp, place_f P hl (k + 1) (by omega), Option.bind_some]
  cases o with
  | some v =>
    have e2 : l.drop lo.length = ⟨m.f2, v⟩ :: hi := by rw [P.eq, md_some, List.append_assoc, List.drop_left' rfl]; rfl
    obtain ⟨h1, h2, _⟩ := rd_drop e2
    dsimp only [Option.isSome]
    rw [if_pos rfl, if_pos (by omega), if_pos (by omega), h2]
    exact hj
  | none =>
    dsimp only [Option.isSome]
    rw [if_neg (by decide)]
    exact hj
theorem apply_other {m : S69} (hp : pnt m = false) {l : List S85} (hs : Srt l) (hl : l.length < 400000) (k : Nat) (hk : l.length + 100 < k) : block_Apply.f k l m.f0 m.f1 m.f2 m.f3 m.f4 m.f5 = some (l.filter fun e => !(tch m e.f0)) := by
  unfold block_Apply.f
  have ht : ∀ q, tch m q = if m.f0 = 4 then hold m.f2.toList m.f3.toList q.toList else false := by
    intro q
    unfold tch
    rw [if_neg (by rw [hp]; decide)]
  by_cases h4 : m.f0 = 4
  · rw [if_pos h4]
    unfold msg_Span.f
    rw [isPoint_f, Option.bind_some, if_neg (by rw [hp]; decide), if_pos h4, Option.bind_some, cut_f hs hl _ _ k (by omega), Option.bind_some]
    simp only [ht, if_pos h4]
  · rw [if_neg h4, isPoint_f, Option.bind_some, if_neg (by rw [hp]; decide), clone_f l (by omega), Option.bind_some]
    congr 1
    refine (List.filter_eq_self.2 (fun x _ => ?_)).symm
    rw [ht, if_neg h4]
    rfl
end Go.Proofs.Ytpfikmchimlneaa.BlkSpec
