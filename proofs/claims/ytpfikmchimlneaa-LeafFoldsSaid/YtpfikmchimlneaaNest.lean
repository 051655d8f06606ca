/- Rows of slices whose headers are moved about: a row of headers of the call's own, and the rows that they lead to. No condition. -/
import Derived.Test.YtpfikmchimlneaaM3V0
import Derived.Lib.SliceRun
import Derived.Sort.Row
set_option linter.unusedVariables false
set_option linter.unusedSimpArgs false
namespace Go.Proofs.YtpfikmchimlneaaW.Nest
open Go.RowKit Go.Proofs.YtpfikmchimlneaaW.PrintWords Go.Proofs.YtpfikmchimlneaaW.PrintWords.Kd Go.Proofs.YtpfikmchimlneaaW.Sl Go.Sort
abbrev Hd := Option Addr × Nat × Nat
def hv (h : Hd) : Value := .slice h.1 h.2.1 h.2.2
theorem hv_one (h : Hd) : (hv h).oneCell' = true := rfl
def hdk : Kd Hd := Kd.scalar hv hv_one
theorem flat_hd : Flat hdk := flat_scalar _ _
def toHd : Value → Hd
  | .slice a n c => (a, n, c)
  | _ => (none, 0, 0)
theorem take_one {cs : List Value} {j : Nat} {u : Value} (h : cs[j]? = some u) : (cs.drop (j * 1)).take 1 = [u] := by
  obtain ⟨hj, rfl⟩ := List.getElem?_eq_some_iff.1 h
  rw [Nat.mul_one, List.drop_eq_getElem_cons hj, List.take_succ_cons, List.take_zero]
theorem reps_hd {hs : List Hd} {inner : List Value} (h : Reps (fun x cs => cs = [hv x]) 1 hs inner) : inner = hs.map hv := by
  refine List.ext_getElem? fun j => ?_
  have hl : inner.length = hs.length := by have := h.1; omega
  rw [List.getElem?_map]
  rcases Nat.lt_or_ge j hs.length with hj | hj
  · have h1 := h.2 j hs[j] (List.getElem?_eq_getElem hj)
    have h2 := List.getElem?_eq_getElem (show j < inner.length by omega)
    rw [take_one h2] at h1
    rw [h2, List.getElem?_eq_getElem hj]
    simpa using h1
  · rw [List.getElem?_eq_none (by omega), List.getElem?_eq_none (by omega)]
    rfl
theorem reps_hd' (hs : List Hd) : Reps (fun x cs => cs = [hv x]) 1 hs (hs.map hv) := by
  refine ⟨by simp, fun j p hj => ?_⟩
  exact take_one (by rw [List.getElem?_map, hj]; rfl)
section
variable {α : Type} {d : Kd α} {E e : Nat} {w w1 : World} {base : Nat} {v : Value} {xs : List (List α)} {hs : List Hd}
/-- each header leads to its row -/
def Inn (d : Kd α) (E : Nat) (w : World) (base : Nat) (hs : List Hd) (xs : List (List α)) : Prop := hs.length = xs.length ∧ ∀ (i : Nat) (h : Hd) (x : List α), hs[i]? = some h → xs[i]? = some x → d.R E w base (fun _ => True) (hv h) x
/-- a row of rows of the call's own, by its headers -/
def NR (d : Kd α) (E e : Nat) (w : World) (base : Nat) (v : Value) (xs : List (List α)) : Prop := ∃ hs, hdk.R e w base (fun _ => True) v hs ∧ Inn d E w base hs xs
theorem NR.of {ok : Nat → Prop} (h : (Kd.slice E d).R e w base ok v xs) : NR d E e w base v xs := by
  obtain ⟨h0, inner, ho, hr⟩ := h
  have hl : inner.length = xs.length := by have := hr.1; simpa [Kd.slice] using this
  have key : ∀ (j : Nat) (u : Value), inner[j]? = some u → ∃ x : List α, xs[j]? = some x ∧ hv (toHd u) = u ∧ d.R E w base (fun _ => True) u x := by
    intro j u hu
    have hj := (List.getElem?_eq_some_iff.1 hu).1
    have hx := List.getElem?_eq_getElem (show j < xs.length by omega)
    have h1 := hr.2 j _ hx
    change (Kd.slice E d).M w base _ _ ((inner.drop (j * 1)).take 1) at h1
    rw [take_one hu] at h1
    obtain ⟨v', he, hR⟩ := h1
    obtain rfl : u = v' := by simpa using he
    obtain ⟨A, c, rfl⟩ := Kd.R_slice hR
    exact ⟨_, hx, rfl, Kd.R_mono hR (fun _ _ => trivial)⟩
  have hm : (inner.map toHd).map hv = inner := by
    rw [List.map_map]
    refine List.ext_getElem? fun j => ?_
    rw [List.getElem?_map]
    cases hu : inner[j]? with
    | none => rfl
    | some u =>
      obtain ⟨x, _, h2, _⟩ := key j u hu
      simpa using h2
  refine ⟨inner.map toHd, ⟨fun _ _ => trivial, inner, ?_, ?_⟩, by rw [List.length_map, hl], fun i h x hi hx => ?_⟩
  · rw [List.length_map, hl]
    exact ho
  · have := reps_hd' (inner.map toHd)
    rw [hm] at this
    exact this
  · rw [List.getElem?_map] at hi
    obtain ⟨u, hu, rfl⟩ := Option.map_eq_some_iff.1 hi
    obtain ⟨x', hx', h2, h3⟩ := key i u hu
    rw [hx] at hx'
    obtain rfl := Option.some.inj hx'
    rw [h2]
    exact h3
theorem NR.to (hne : ∀ q, q ∈ E :: d.E → q ≠ e) (h : NR d E e w base v xs) : (Kd.slice E d).R e w base (fun _ => True) v xs := by
  obtain ⟨hs, ⟨_, inner, ho, hr⟩, hl, hi⟩ := h
  obtain rfl := reps_hd hr
  have hty : ∀ k, v.ownBlock = some k → ∃ cells, w.heap[k]? = some (.cells cells e (0, 0)) := own_typed ho
  refine ⟨fun _ _ => trivial, hs.map hv, by rw [← hl]; exact ho, by rw [List.length_map, hl]; exact (Nat.mul_one _).symm, fun j x hx => ?_⟩
  have hj : j < hs.length := by rw [hl]; exact (List.getElem?_eq_some_iff.1 hx).1
  have hh := List.getElem?_eq_getElem hj
  change (Kd.slice E d).M w base _ _ (((hs.map hv).drop (j * 1)).take 1)
  rw [take_one (u := hv hs[j]) (by rw [List.getElem?_map, hh]; rfl)]
  refine ⟨_, rfl, Kd.R_mono (Kd.R_bound (hi j _ x hh hx)) fun k hk => ⟨trivial, fun he => ?_⟩⟩
  obtain ⟨_, _, _, q, hq, cells, hc⟩ := hk
  obtain ⟨cells', hc'⟩ := hty k he.symm
  rw [hc] at hc'
  injection hc' with hc'
  injection hc' with _ hc'
  exact hne q hq hc'
theorem Inn.step (h : Inn d E w base hs xs) (hm : ∀ k q cells, k < w.heap.size → q ∈ E :: d.E → w.heap[k]? = some (.cells cells q (0, 0)) → w1.heap[k]? = w.heap[k]?) : Inn d E w1 base hs xs :=
  ⟨h.1, fun i hh x h1 h2 => Kd.R_mono (Kd.R_move (Kd.R_bound (h.2 i hh x h1 h2)) (fun k hk => by
    obtain ⟨_, _, h3, q, hq, cells, hc⟩ := hk
    exact hm k q cells h3 hq hc)) (fun _ _ => trivial)⟩
theorem Inn.below (h : Inn d E w base hs xs) (hb : Below w.heap.size w w1) : Inn d E w1 base hs xs := h.step fun k _ _ hk _ _ => hb.block k hk
theorem Inn.grown (hne : ∀ q, q ∈ E :: d.E → q ≠ e) (h : Inn d E w base hs xs) {g : Nat} {cur : Array Value} (hb : w.heap[g]? = some (.cells cur e (0, 0))) (hg : w.grownBy w1 (some g)) : Inn d E w1 base hs xs := h.step fun k q cells hk hq hc => hg.block k hk fun he => by
  obtain rfl := Option.some.inj he
  rw [hc] at hb
  injection hb with hb
  injection hb with _ hb
  exact hne q hq hb
theorem Inn.lower {base' : Nat} (h : Inn d E w base hs xs) (hb : base' ≤ base) : Inn d E w base' hs xs := ⟨h.1, fun i hh x h1 h2 => Kd.R_lower (h.2 i hh x h1 h2) hb⟩
theorem Inn.nil : Inn d E w base [] [] := ⟨rfl, fun i h x hi => by simp at hi⟩
theorem Inn.one {h : Hd} {x : List α} (hr : d.R E w base (fun _ => True) (hv h) x) : Inn d E w base [h] [x] := ⟨rfl, fun i h' x' h1 h2 => by
  match i, h1, h2 with
  | 0, h1, h2 =>
    obtain rfl : h = h' := by simpa using h1
    obtain rfl : x = x' := by simpa using h2
    exact hr⟩
theorem Inn.append {hs2 : List Hd} {xs2 : List (List α)} (h : Inn d E w base hs xs) (h2 : Inn d E w base hs2 xs2) : Inn d E w base (hs ++ hs2) (xs ++ xs2) := by
  refine ⟨by rw [List.length_append, List.length_append, h.1, h2.1], fun i hh x h3 h4 => ?_⟩
  rcases Nat.lt_or_ge i hs.length with hi | hi
  · rw [List.getElem?_append_left hi] at h3
    rw [List.getElem?_append_left (by rw [← h.1]; exact hi)] at h4
    exact h.2 i hh x h3 h4
  · rw [List.getElem?_append_right hi] at h3
    rw [List.getElem?_append_right (by rw [← h.1]; exact hi)] at h4
    rw [← h.1] at h4
    exact h2.2 _ hh x h3 h4
theorem Inn.take (h : Inn d E w base hs xs) (i : Nat) : Inn d E w base (hs.take i) (xs.take i) := by
  refine ⟨by rw [List.length_take, List.length_take, h.1], fun j hh x h3 h4 => ?_⟩
  rw [List.getElem?_take] at h3 h4
  split at h3
  · rename_i hj
    rw [if_pos hj] at h4
    exact h.2 j hh x h3 h4
  · cases h3
theorem Inn.drop (h : Inn d E w base hs xs) (i : Nat) : Inn d E w base (hs.drop i) (xs.drop i) := by
  refine ⟨by rw [List.length_drop, List.length_drop, h.1], fun j hh x h3 h4 => ?_⟩
  rw [List.getElem?_drop] at h3 h4
  exact h.2 _ hh x h3 h4
theorem Inn.set (h : Inn d E w base hs xs) (i : Nat) {hd : Hd} {x : List α} (hr : d.R E w base (fun _ => True) (hv hd) x) : Inn d E w base (hs.set i hd) (xs.set i x) := by
  refine ⟨by rw [List.length_set, List.length_set, h.1], fun j hh y h3 h4 => ?_⟩
  rw [List.getElem?_set] at h3 h4
  by_cases hij : i = j
  · subst hij
    rw [if_pos rfl] at h3 h4
    split at h3
    · rw [if_pos (by rw [← h.1]; assumption)] at h4
      obtain rfl := Option.some.inj h3
      obtain rfl := Option.some.inj h4
      exact hr
    · cases h3
  · rw [if_neg hij] at h3 h4
    exact h.2 j hh y h3 h4
theorem Inn.filter (h : Inn d E w base hs xs) (p : Hd → Bool) (q : List α → Bool) (hpq : ∀ (i : Nat) (hh : Hd) (x : List α), hs[i]? = some hh → xs[i]? = some x → p hh = q x) : Inn d E w base (hs.filter p) (xs.filter q) := by
  induction hs generalizing xs with
  | nil =>
    obtain rfl : xs = [] := List.eq_nil_of_length_eq_zero h.1.symm
    exact Inn.nil
  | cons a hs ih =>
    cases xs with
    | nil => have := h.1; simp at this
    | cons x xs =>
      have h0 := hpq 0 a x rfl rfl
      have ht : Inn d E w base hs xs := by have := h.drop 1; simpa using this
      have r := ih ht (fun i hh y h1 h2 => hpq (i + 1) hh y (by simpa using h1) (by simpa using h2))
      rw [List.filter_cons, List.filter_cons, h0]
      split
      · exact Inn.append (Inn.one (h.2 0 a x rfl rfl)) r
      · exact r
theorem NR.below (h : NR d E e w base v xs) (hb : Below w.heap.size w w1) : NR d E e w1 base v xs := by
  obtain ⟨hs, h1, h2⟩ := h
  exact ⟨hs, Kd.R_below h1 hb, h2.below hb⟩
/-- a row of headers as the library's contracts say it -/
theorem R_holds {ok : Nat → Prop} {g n c : Nat} (h : hdk.R e w base ok (.slice (some ⟨g, 0, none⟩) n c) hs) : n = hs.length ∧ n ≤ c ∧ c ≤ maxLen ∧ Holds hv w g 0 hs.toArray ∧ base ≤ g ∧ ∃ cur, w.heap[g]? = some (.cells cur e (0, 0)) ∧ cur.size = c ∧ cur.toList.take hs.length = hs.map hv := by
  obtain ⟨_, inner, ⟨ho1, ho2⟩, hr⟩ := h
  obtain rfl := reps_hd hr
  rcases ho2 with ⟨h, _⟩ | ⟨g', cap', cur, he, hb, hheap, hnc, hcm, hsize, htake⟩
  · simp at h
  · simp only [Value.slice.injEq, Option.some.injEq, Addr.mk.injEq, true_and, and_true] at he
    obtain ⟨rfl, rfl, rfl⟩ := he
    have hz : hdk.sz = 1 := rfl
    rw [hz, Nat.mul_one] at htake hsize
    refine ⟨rfl, hnc, hcm, fun j hj => ?_, hb, cur, hheap, hsize, htake⟩
    have hj' : j < hs.length := by simpa using hj
    have h1 : cur[j]? = some (hv hs.toArray[j]!) := by
      have h2 : (cur.toList.take hs.length)[j]? = some (hv hs[j]) := by rw [htake, List.getElem?_map, List.getElem?_eq_getElem hj']; rfl
      rw [List.getElem?_take, if_pos hj', Array.getElem?_toList] at h2
      rw [h2, getElem!_pos hs.toArray j hj]
      simp
    rw [Nat.zero_add]
    exact ⟨by simp only [World.cell?, hheap]; exact h1, by simp [World.frozen?, hheap]⟩
theorem R_put {ok : Nat → Prop} {g n c : Nat} (h : hdk.R e w base ok (.slice (some ⟨g, 0, none⟩) n c) hs) (q : Nat) (ys : List Hd) (hl : ys.length = hs.length) (m : Nat) (hm : m ≤ ys.length) :
    hdk.R e (putRow hv (Go.Sort.ahead w q) g 0 ys.toArray) base ok (.slice (some ⟨g, 0, none⟩) m c) (ys.take m) ∧ w.grownBy (putRow hv (Go.Sort.ahead w q) g 0 ys.toArray) (some g) := by
  have hok : ok g := h.1 g rfl
  obtain ⟨rfl, hnc, hcm, _, hb, cur, hheap, hsize, htake⟩ := R_holds h
  have hheap' : (putRow hv (Go.Sort.ahead w q) g 0 ys.toArray).heap[g]? = some (.cells (putCells hv 0 ys.toArray cur) e (0, 0)) := by
    show (w.heap.modify g (onCells (putCells hv 0 ys.toArray)))[g]? = _
    rw [Array.getElem?_modify, if_pos rfl, hheap]
    rfl
  have hsz : (putCells hv 0 ys.toArray cur).size = c := by simp [putCells, hsize]
  have ht : (putCells hv 0 ys.toArray cur).toList.take m = (ys.take m).map hv := by
    refine List.ext_getElem? fun j => ?_
    rw [List.getElem?_take, List.getElem?_map, List.getElem?_take]
    by_cases hj : j < m
    · rw [if_pos hj, if_pos hj, Array.getElem?_toList]
      have hjy : j < ys.length := by omega
      have hjc : j < cur.size := by omega
      rw [List.getElem?_eq_getElem hjy]
      simp only [putCells, Array.getElem?_mapIdx, Array.getElem?_eq_getElem hjc, Option.map_some]
      rw [if_pos ⟨by omega, by simpa using hjy⟩, Nat.sub_zero, getElem!_pos ys.toArray j (by simpa using hjy)]
      simp
    · rw [if_neg hj, if_neg hj]
      rfl
  have hlen : (ys.take m).length = m := by rw [List.length_take]; omega
  refine ⟨⟨fun k hk => ?_, (ys.take m).map hv, ⟨by rw [List.length_map, hlen]; show m = m * 1; omega, .inr ⟨g, c, _, by rw [hlen], hb, hheap', by omega, hcm, by rw [hsz]; show c = c * 1; omega, by rw [hlen]; show List.take (m * 1) _ = _; rw [Nat.mul_one]; exact ht⟩⟩, reps_hd' _⟩, ⟨rfl, rfl, rfl, ?_, fun k hk hne => ?_⟩⟩
  · have : g = k := by simpa [Value.ownBlock] using hk
    exact this ▸ hok
  · show w.heap.size ≤ (w.heap.modify g _).size
    simp
  · show (w.heap.modify g _)[k]? = _
    rw [Array.getElem?_modify, if_neg (fun he => hne (by rw [he]))]
/-- the front of a block of the call's own -/
def Rw (e : Nat) (w : World) (base g c : Nat) (cs : List Value) : Prop := ∃ cur, w.heap[g]? = some (.cells cur e (0, 0)) ∧ cur.size = c ∧ c ≤ maxLen ∧ base ≤ g ∧ cur.toList.take cs.length = cs
theorem Rw.len {g c : Nat} {cs : List Value} (h : Rw e w base g c cs) : cs.length ≤ c := by
  obtain ⟨cur, _, hs, _, _, ht⟩ := h
  have h2 : cur.toList.length = c := Array.length_toList.trans hs
  have := congrArg List.length ht
  rw [List.length_take, h2] at this
  omega
theorem Rw.of {ok : Nat → Prop} {g n c : Nat} (h : hdk.R e w base ok (.slice (some ⟨g, 0, none⟩) n c) hs) : Rw e w base g c (hs.map hv) := by
  obtain ⟨_, _, hcm, _, hb, cur, h1, h2, h3⟩ := R_holds h
  exact ⟨cur, h1, h2, hcm, hb, by rw [List.length_map]; exact h3⟩
theorem Rw.to {g c : Nat} (h : Rw e w base g c (hs.map hv)) : hdk.R e w base (fun _ => True) (.slice (some ⟨g, 0, none⟩) hs.length c) hs := by
  have hl := h.len
  obtain ⟨cur, h1, h2, hcm, hb, h3⟩ := h
  rw [List.length_map] at hl h3
  exact ⟨fun _ _ => trivial, hs.map hv, ⟨by rw [List.length_map]; exact (Nat.mul_one _).symm, .inr ⟨g, c, cur, rfl, hb, h1, hl, hcm, by rw [h2]; exact (Nat.mul_one _).symm, by show List.take (hs.length * 1) _ = _; rw [Nat.mul_one]; exact h3⟩⟩, reps_hd' _⟩
theorem Rw.take {g c : Nat} {cs : List Value} (h : Rw e w base g c cs) (i : Nat) : Rw e w base g c (cs.take i) := by
  obtain ⟨cur, h1, h2, hcm, hb, h3⟩ := h
  refine ⟨cur, h1, h2, hcm, hb, ?_⟩
  refine Eq.trans ?_ (congrArg (List.take i) h3)
  rw [List.take_take, List.length_take]
theorem Rw.cell {g c : Nat} {cs : List Value} (h : Rw e w base g c cs) {j : Nat} {u : Value} (hu : cs[j]? = some u) : w.cell? ⟨g, j, none⟩ = some u := by
  obtain ⟨cur, h1, _, _, _, h3⟩ := h
  have hj := (List.getElem?_eq_some_iff.1 hu).1
  have h4 : (cur.toList.take cs.length)[j]? = some u := by rw [h3]; exact hu
  rw [List.getElem?_take, if_pos hj, Array.getElem?_toList] at h4
  simp only [World.cell?, h1]
  exact h4
theorem Rw.drew {g c : Nat} {cs : List Value} (h : Rw e w base g c cs) : Rw e w.drew base g c cs := h
theorem Rw.keep {g c : Nat} {cs : List Value} (h : Rw e w base g c cs) (hk : w1.heap[g]? = w.heap[g]?) : Rw e w1 base g c cs := by
  obtain ⟨cur, h1, h2⟩ := h
  exact ⟨cur, hk.trans h1, h2⟩
theorem Rw.heap {g c : Nat} {cs : List Value} (h : Rw e w base g c cs) : ∃ cur, w.heap[g]? = some (.cells cur e (0, 0)) := by
  obtain ⟨cur, h1, _⟩ := h
  exact ⟨cur, h1⟩
theorem row_grown (g : Nat) (cells : Array Value) : w.grownBy (w.setRow g cells) (some g) :=
  ⟨rfl, rfl, rfl, by simp [World.setRow], fun k hk hne => by
    show (w.heap.modify g _)[k]? = _
    rw [Array.getElem?_modify, if_neg (fun he => hne (by rw [he]))]⟩
theorem Rw.row {g c : Nat} {cs : List Value} {cur : Array Value} (hheap : w.heap[g]? = some (.cells cur e (0, 0))) (hs : cur.size = c) (hcm : c ≤ maxLen) (hb : base ≤ g) (htk : cur.toList.take cs.length = cs) (hl : cs.length ≤ c) (o : Nat) (ho : o ≤ cs.length) (ds : List Value) (hfit : o + ds.length ≤ c) :
    Rw e (w.setRow g (cur.toList.take o ++ ds ++ cur.toList.drop (o + ds.length)).toArray) base g c (cs.take o ++ ds ++ cs.drop (o + ds.length)) := by
  refine ⟨_, setRow_heap w g cur _ e (0, 0) hheap, ?_, hcm, hb, ?_⟩
  · simp only [List.size_toArray, List.length_append, List.length_take, List.length_drop, Array.length_toList, hs]
    omega
  · rw [List.toList_toArray]
    refine List.ext_getElem? fun j => ?_
    have hcl : cur.toList.length = c := by rw [Array.length_toList, hs]
    have hk : ∀ q, q < cs.length → cur.toList[q]? = cs[q]? := fun q hq => by
      conv => rhs; rw [← htk]
      rw [List.getElem?_take, if_pos hq]
    rw [List.getElem?_take]
    simp only [List.length_append, List.length_take, List.length_drop]
    split
    · rename_i hj
      rcases Nat.lt_or_ge j o with h3 | h3
      · rw [List.getElem?_append_left (by simp only [List.length_append, List.length_take]; omega), List.getElem?_append_left (by simp only [List.length_take]; omega), List.getElem?_append_left (by simp only [List.length_append, List.length_take]; omega), List.getElem?_append_left (by simp only [List.length_take]; omega), List.getElem?_take, if_pos h3, List.getElem?_take, if_pos h3]
        exact hk j (by omega)
      · rcases Nat.lt_or_ge j (o + ds.length) with h4 | h4
        · rw [List.getElem?_append_left (by simp only [List.length_append, List.length_take]; omega), List.getElem?_append_right (by simp only [List.length_take]; omega), List.getElem?_append_left (by simp only [List.length_append, List.length_take]; omega), List.getElem?_append_right (by simp only [List.length_take]; omega)]
          congr 1
          simp only [List.length_take]
          omega
        · rw [List.getElem?_append_right (by simp only [List.length_append, List.length_take]; omega), List.getElem?_append_right (by simp only [List.length_append, List.length_take]; omega), List.getElem?_drop, List.getElem?_drop]
          simp only [List.length_append, List.length_take]
          rw [hk _ (by omega)]
          congr 1
          omega
    · rename_i hj
      rw [List.getElem?_eq_none]
      simp only [List.length_append, List.length_take, List.length_drop]
      omega
/-- copy(v[o:], src), from wherever: what lies behind the front may be written, too -/
theorem Rw.copy {P : Program} (t t' ty : TypeId) (ht : P.underlying t = some (.slice e)) (hsz : (P.info? e).map (·.size) = some 1) {g c : Nat} {cs : List Value} (h : Rw e w base g c cs) (o dl dc : Nat) (ho : o ≤ cs.length) (ds : List Value) (a : Addr) (mc : Nat)
    (hsrc : ∀ j u, ds[j]? = some u → w.cell? (a.add j) = some u) (h1 : ∀ u ∈ ds, u.oneCell' = true) (hd : ds.length ≤ dl) (hfit : o + ds.length ≤ c) :
    ∃ n w', (Builtin.copy_ #[t, t'] ty #[.slice (some ⟨g, o, none⟩) dl dc, .slice (some a) ds.length mc]).run P w = .ok n w' ∧ Rw e w' base g c (cs.take o ++ ds ++ cs.drop (o + ds.length)) ∧ w.grownBy w' (some g) := by
  have hl := h.len
  obtain ⟨cur, hheap, hs, hcm, hb, htk⟩ := h
  have hmin : Nat.min ds.length dl = ds.length := Nat.min_eq_left hd
  have hrun := run_copy_rowN (P := P) w t t' ty e g o dl dc a ds.length mc 1 cur e ds ht hsz hheap (by rw [hmin, Nat.mul_one]) hsrc (by rw [hs]; exact hfit) h1
  exact ⟨_, _, hrun, Rw.row hheap hs hcm hb htk hl o ho ds hfit, row_grown g _⟩
/-- append(v[:n], src), with room -/
theorem Rw.push {P : Program} (t ty : TypeId) (ht : P.underlying t = some (.slice e)) {i0 : TypeInfo} (hi : P.info? e = some i0) (hsz : i0.size = 1) {g c : Nat} {cs : List Value} (h : Rw e w base g c cs) (n : Nat) (hn : n ≤ cs.length) (ds : List Value) (a : Addr) (mc : Nat)
    (hsrc : ∀ j u, ds[j]? = some u → w.cell? (a.add j) = some u) (h1 : ∀ u ∈ ds, u.oneCell' = true) (hfit : n + ds.length ≤ c) :
    ∃ v w', (Builtin.append_ #[t, t] ty #[.slice (some ⟨g, 0, none⟩) n c, .slice (some a) ds.length mc]).run P w = .ok v w' ∧ v = .slice (some ⟨g, 0, none⟩) (n + ds.length) c ∧ Rw e w' base g c (cs.take n ++ ds ++ cs.drop (n + ds.length)) ∧ w.grownBy w' (some g) := by
  have hl := h.len
  obtain ⟨cur, hheap, hs, hcm, hb, htk⟩ := h
  have hrun := run_append_room (P := P) (w := w) t ty e i0 ht hi g n c cur hheap a ds.length mc ds (by rw [hsz, Nat.mul_one]) hsrc h1 hfit (by rw [hsz, Nat.mul_one, hs]; exact hfit)
  rw [hsz, Nat.mul_one] at hrun
  exact ⟨_, _, hrun, rfl, Rw.row hheap hs hcm hb htk hl n hn ds hfit, row_grown g _⟩
theorem setCells_front {g : Nat} {tt : TypeId} : ∀ (vs : List Value) (o : Nat) {w : World} {cur : Array Value}, w.heap[g]? = some (.cells cur tt (0, 0)) → ∃ cur', (w.setCells g o vs).heap[g]? = some (.cells cur' tt (0, 0)) ∧ cur'.size = cur.size ∧ ∀ j : Nat, j < o → cur'[j]? = cur[j]?
  | [], o, w, cur, h => ⟨cur, h, rfl, fun _ _ => rfl⟩
  | v :: r, o, w, cur, h => by
    rw [World.setCells]
    obtain ⟨c2, h1, h2, h3⟩ := setCells_front r (o + 1) (blk_set h o v)
    refine ⟨c2, h1, by rw [h2]; simp, fun j hj => ?_⟩
    rw [h3 j (by omega), Array.getElem?_setIfInBounds, if_neg (by omega)]
/-- clear(v[o:]) -/
theorem Rw.clear {P : Program} (t ty : TypeId) (z : Value) (ht : P.underlying t = some (.slice e)) (hv : ∀ w, (zeroValue e).run P w = .ok z w) (hz : z.cells = #[z]) (h1 : z.oneCell' = true) {g c : Nat} {cs : List Value} (h : Rw e w base g c cs) (o n dc : Nat) (ho : o ≤ cs.length) (hn : 0 < n) (hfit : o + n ≤ c) :
    ∃ v w', (Builtin.clear_ #[t] ty #[.slice (some ⟨g, o, none⟩) n dc]).run P w = .ok v w' ∧ Rw e w' base g c (cs.take o) ∧ w.grownBy w' (some g) := by
  obtain ⟨cur, hheap, hs, hcm, hb, htk⟩ := h
  have hcell : ∀ j, j < n → (w.cell? ⟨g, o + j, none⟩).isSome = true := fun j hj => by
    simp only [World.cell?, hheap]
    show (cur[o + j]?).isSome = true
    rw [Array.getElem?_eq_getElem (by omega)]
    rfl
  have hrun := Lib.run_clear_slice (P := P) w t e ty z ht hv hz h1 g o n dc hn hcell (fun j _ => by simp [World.frozen?, hheap])
  obtain ⟨c2, h2, h3, h4⟩ := setCells_front (List.replicate n z) o hheap
  refine ⟨_, _, hrun, ⟨c2, h2, h3.trans hs, hcm, hb, ?_⟩, setCells_grown w g o _⟩
  refine Eq.trans ?_ (congrArg (List.take o) htk)
  refine List.ext_getElem? fun j => ?_
  rw [List.take_take, List.length_take, List.getElem?_take, List.getElem?_take]
  by_cases hj : j < min o cs.length
  · rw [if_pos hj, if_pos hj, Array.getElem?_toList, Array.getElem?_toList, h4 j (by omega)]
  · rw [if_neg hj, if_neg hj]
theorem Rw.set {g c : Nat} {cs : List Value} (h : Rw e w base g c cs) (i : Nat) (u : Value) : Rw e (w.setCell ⟨g, i, none⟩ u) base g c (cs.set i u) := by
  obtain ⟨cur, h1, h2, h3, h4, h5⟩ := h
  refine ⟨_, blk_set h1 i u, by rw [Array.size_setIfInBounds]; exact h2, h3, h4, ?_⟩
  rw [List.length_set, Array.toList_setIfInBounds, List.take_set, h5]
theorem set_grown (g i : Nat) (u : Value) : w.grownBy (w.setCell ⟨g, i, none⟩ u) (some g) :=
  setCells_grown w g i [u]
theorem NR.set (hne : ∀ q, q ∈ E :: d.E → q ≠ e) {g n c : Nat} (h : NR d E e w base (.slice (some ⟨g, 0, none⟩) n c) xs) (i : Nat) (a : Hd) {y : List α} (hr : d.R E w base (fun _ => True) (hv a) y) : NR d E e (w.setCell ⟨g, i, none⟩ (hv a)) base (.slice (some ⟨g, 0, none⟩) n c) (xs.set i y) := by
  obtain ⟨hs, hR, hI⟩ := h
  have hn := (R_holds hR).1
  have hrw := Rw.of hR
  obtain ⟨cur, hh⟩ := hrw.heap
  have h2 : Rw e (w.setCell ⟨g, i, none⟩ (hv a)) base g c ((hs.set i a).map hv) := by rw [List.map_set]; exact hrw.set i (hv a)
  have h3 := h2.to
  rw [List.length_set, ← hn] at h3
  exact ⟨_, h3, (hI.set i hr).grown hne hh (set_grown g i _)⟩
/-- an element's header, as it is read -/
theorem NR.elem {g n c : Nat} (h : NR d E e w base (.slice (some ⟨g, 0, none⟩) n c) xs) (i : Nat) (hi : i < xs.length) : n = xs.length ∧ base ≤ g ∧ g < w.heap.size ∧ (∃ A c', w.cell? ⟨g, i, none⟩ = some (.slice A (xs.getD i []).length c') ∧ d.R E w base (fun _ => True) (.slice A (xs.getD i []).length c') (xs.getD i [])) ∧ w.frozen? ⟨g, i, none⟩ = false := by
  obtain ⟨hs, hR, hI⟩ := h
  have hl := hI.1
  have hn := (R_holds hR).1
  have hrw := Rw.of hR
  obtain ⟨cur, hh⟩ := hrw.heap
  have g1 : hs[i]? = some (hs[i]'(by omega)) := List.getElem?_eq_getElem (by omega)
  have x1 : xs[i]? = some (xs.getD i []) := by rw [List.getD_eq_getElem?_getD, List.getElem?_eq_getElem hi]; rfl
  have r1 := hI.2 i _ _ g1 x1
  obtain ⟨A, c', he⟩ := Kd.R_slice r1
  rw [he] at r1
  refine ⟨hn.trans hl, (R_holds hR).2.2.2.2.1, blk_lt hh, ⟨A, c', hrw.cell (by rw [List.getElem?_map, g1]; exact congrArg some he), r1⟩, by simp [World.frozen?, hh]⟩
theorem NR.slice (h : NR d E e w base v xs) : ∃ A c, v = .slice A xs.length c := by
  obtain ⟨hs, hR, hI⟩ := h
  obtain ⟨A, c, he⟩ := Kd.R_slice hR
  exact ⟨A, c, by rw [← hI.1]; exact he⟩
theorem NR.form (h : NR d E e w base v xs) (hp : 0 < xs.length) : ∃ g c, v = .slice (some ⟨g, 0, none⟩) xs.length c ∧ base ≤ g ∧ g < w.heap.size := by
  obtain ⟨hs, hR, hI⟩ := h
  obtain ⟨g, c, he, h1, h2, _⟩ := Kd.R_form hR (by rw [hI.1]; exact hp)
  exact ⟨g, c, by rw [← hI.1]; exact he, h1, h2⟩
end
end Go.Proofs.YtpfikmchimlneaaW.Nest
