/- What can be read as data out of memory is a value of the kind that the printed functions speak of: numbers, bools, texts, rows, structs; and how large it can be. No condition. -/
import Derived.Test.YtpfikmchimlneaaWWords
import Derived.ChangeArms
import Derived.ChangeShapes
import Derived.ChangeSame
import Derived.ChangeMaps
import Derived.ChangeMaps5
import Derived.SizedLaws
import Derived.DataReads
import Derived.WideShapes
set_option linter.unusedVariables false
set_option linter.unusedSimpArgs false
namespace Go.Proofs.YtpfikmchimlneaaW.OpenKd
open Go.ChangeShapes Go.WideShapes Go.RowKit Go.Proofs.YtpfikmchimlneaaW.PrintWords
section
variable {H : Type} (enc : TypeId × Value → H) (P : Program) (W : World)
/-- A type's cells that can be read as data are a value of the kind d, of which ok holds. -/
def Opens {α : Type} (t : TypeId) (d : Kd α) (ok : α → Prop) : Prop :=
  ∀ (fuel : Nat) (cs : List Value) (x : DataW H × List MemPlace), DataW.trod enc P W 0 (fun _ => true) true fuel t cs = some x → (∀ n ∈ x.1.weights P t, n ≤ 140737488351232) → ∃ y, d.K W y cs ∧ ok y
/-- The same of a struct's fields, one behind the other, from place o on: their types, their numbers of cells. -/
def OpensF {α : Type} (o : Nat) (fs : List (TypeId × Nat)) (d : Kd α) (ok : α → Prop) : Prop :=
  ∀ (fuel : Nat) (cs : List Value) (xs : List (DataW H × List MemPlace)), cs.length = o + (fs.map (·.2)).sum → xs.length = fs.length →
    (∀ i t m, fs[i]? = some (t, m) → DataW.trod enc P W 0 (fun _ => true) true fuel t ((cs.drop (o + ((fs.take i).map (·.2)).sum)).take m) = xs[i]?) →
    (∀ n ∈ DataW.weightsEach P (fs.map (·.1)) (xs.map (·.1)), n ≤ 140737488351232) → ∃ y, d.K W y (cs.drop o) ∧ ok y
end
section
variable {H : Type} {enc : TypeId × Value → H} {P : Program} {W : World}
theorem opens_int {t : TypeId} {k : IntKind} (ht : P.underlying t = some (.int k)) : Opens enc P W t (Kd.int k) (fun n => (Lit.int k n).wf = true) := by
  intro fuel cs x h _
  cases fuel with
  | zero => simp [DataW.trod] at h
  | succ n =>
    unfold DataW.trod at h
    rw [ht] at h
    split at h <;> simp_all
    obtain ⟨⟨rfl, hw⟩, _⟩ := h
    exact ⟨_, rfl, hw⟩
theorem opens_bool {t : TypeId} (ht : P.underlying t = some .bool) : Opens enc P W t Kd.bool (fun _ => True) := by
  intro fuel cs x h _
  cases fuel with
  | zero => simp [DataW.trod] at h
  | succ n =>
    unfold DataW.trod at h
    rw [ht] at h
    split at h <;> simp_all
    rename_i b _
    exact (by cases b <;> simp [Kd.bool, Kd.scalar])
theorem opens_string {t : TypeId} (ht : P.underlying t = some .string) : Opens enc P W t Kd.string (fun s => s.size ≤ 140737488351232) := by
  intro fuel cs x h hw
  obtain ⟨s, rfl, rfl, hs⟩ := DataW.trod_string ht h
  refine ⟨s, rfl, ?_⟩
  have z := hw s.data.toList.length (by simp [DataW.weights])
  simpa using z
theorem weights_all {e : TypeId} : ∀ {ds : List (DataW H)} {d : DataW H}, d ∈ ds → ∀ n ∈ d.weights P e, n ∈ DataW.weightsAll P e ds
  | d0 :: ds, d, hd, n, hn => by
    rw [DataW.weightsAll, List.mem_append]
    rcases List.mem_cons.1 hd with rfl | hd
    · exact .inl hn
    · exact .inr (weights_all hd n hn)
theorem opens_slice {α : Type} {t e : TypeId} {d : Kd α} {ok : α → Prop} {B : Nat} (ht : P.underlying t = some (.slice e)) (hc : P.cellsOf e = d.sz) (hB : P.bytesOf e = B) (he : Opens enc P W e d ok) :
    Opens enc P W t (Kd.slice e d) (fun xs => xs.length ≤ maxLen ∧ xs.length * B ≤ 140737488351232 ∧ ∀ x ∈ xs, ok x) := by
  intro fuel cs x h hw
  rcases DataW.trod_slice ht h with ⟨rfl, rfl⟩ | ⟨a, len, cap, elems, rest, n, _, rfl, rfl, hb, hl, hm, hlen, hel, hsp, hns⟩
  · exact ⟨[], ⟨none, 0, rfl, Nat.le_refl _, rfl, by simp, fun h => absurd h (by simp)⟩, by simp [maxLen]⟩
  · have each : ∀ i, i < len → ∃ y, ok y ∧ ∃ c, c.length = d.sz ∧ d.K W y c ∧ ∀ j u, c[j]? = some u → W.cell? (a.add (i * d.sz + j)) = some u := by
      intro i hi
      have h1 := hel i hi
      have hi' : i < elems.length := by omega
      rw [List.getElem?_eq_getElem hi'] at h1
      obtain ⟨c, hcs, ht2⟩ := Option.bind_eq_some_iff.1 h1
      obtain ⟨_, hcl, hcell⟩ := World.cells?_some hcs
      obtain ⟨y, hK, hok⟩ := he _ _ _ ht2 (fun m hm' => hw m (by
        rw [DataW.weights, ht]
        simp only [List.mem_cons, List.mem_append]
        exact .inr (.inl (weights_all (List.mem_map.2 ⟨_, List.getElem_mem hi', rfl⟩) m hm'))))
      refine ⟨y, hok, c, by rw [hcl, hc], hK, fun j u hu => ?_⟩
      have hj : j < P.cellsOf e := by
        have := (List.getElem?_eq_some_iff.1 hu).1
        omega
      rw [← hu, ← hcell j hj, ← hc]
      rw [Addr.add_add]
    have pick : ∀ m, m ≤ len → ∃ xs : List α, xs.length = m ∧ (∀ x ∈ xs, ok x) ∧ ∀ i p, xs[i]? = some p → ∃ c, c.length = d.sz ∧ d.K W p c ∧ ∀ j u, c[j]? = some u → W.cell? (a.add (i * d.sz + j)) = some u := by
      intro m
      induction m with
      | zero => exact fun _ => ⟨[], rfl, by simp, by simp⟩
      | succ m ih =>
        intro hm'
        obtain ⟨xs, hx, hok, hcell⟩ := ih (by omega)
        obtain ⟨y, hy, hc2⟩ := each m (by omega)
        refine ⟨xs ++ [y], by simp [hx], ?_, ?_⟩
        · intro x hx2
          rcases List.mem_append.1 hx2 with hx2 | hx2
          · exact hok x hx2
          · rw [List.mem_singleton.1 hx2]
            exact hy
        · intro i p hp
          by_cases hi : i < m
          · rw [List.getElem?_append_left (by omega)] at hp
            exact hcell i p hp
          · have hi2 : i = m := by
              have := (List.getElem?_eq_some_iff.1 hp).1
              simp [hx] at this
              omega
            subst hi2
            rw [List.getElem?_append_right (by omega)] at hp
            simp [hx] at hp
            subst hp
            exact hc2
    obtain ⟨xs, hx, hok, hcell⟩ := pick len (Nat.le_refl _)
    have hz := hw ((elems.length + rest.length) * P.bytesOf e) (by
      rw [DataW.weights, ht]
      simp)
    refine ⟨xs, ⟨some a, cap, by rw [hx], by omega, rfl, by simp only [maxLen] at hm; omega, fun _ => ⟨a, rfl, hcell⟩⟩, by omega, ?_, hok⟩
    rw [hB] at hz
    exact Nat.le_trans (Nat.mul_le_mul_right _ (by omega)) hz
theorem opensF_one {α : Type} {o : Nat} {t : TypeId} {m : Nat} {d : Kd α} {ok : α → Prop} (h : Opens enc P W t d ok) : OpensF enc P W o [(t, m)] d ok := by
  intro fuel cs xs hl hx hall hw
  match xs, hx with
  | [x], _ =>
    have h0 := hall 0 t m rfl
    simp only [List.take_zero, List.map_nil, List.sum_nil, Nat.add_zero, List.getElem?_cons_zero] at h0
    rw [List.take_of_length_le (by simp at hl ⊢; omega)] at h0
    exact h _ _ _ h0 (fun n hn => hw n (by simp only [List.map_cons, List.map_nil, DataW.weightsEach, List.append_nil]; exact hn))
theorem opensF_cons {α β : Type} {o : Nat} {t : TypeId} {m : Nat} {fs : List (TypeId × Nat)} {d : Kd α} {d' : Kd β} {ok : α → Prop} {ok' : β → Prop} (h : Opens enc P W t d ok) (h' : OpensF enc P W (o + m) fs d' ok') :
    OpensF enc P W o ((t, m) :: fs) (Kd.pair d d') (fun x => ok x.1 ∧ ok' x.2) := by
  intro fuel cs xs hl hx hall hw
  match xs, hx with
  | x :: xs, hx =>
    have h0 := hall 0 t m rfl
    simp only [List.take_zero, List.map_nil, List.sum_nil, Nat.add_zero, List.getElem?_cons_zero] at h0
    simp only [List.map_cons, List.sum_cons] at hl
    obtain ⟨y, hK, hy⟩ := h _ _ _ h0 (fun n hn => hw n (by simp only [List.map_cons, DataW.weightsEach, List.mem_append]; exact .inl hn))
    obtain ⟨z, hK2, hz⟩ := h' fuel cs xs (by omega) (by simpa using hx) (fun i t' m' hi => by
      have := hall (i + 1) t' m' (by simpa using hi)
      simp only [List.take_succ_cons, List.map_cons, List.sum_cons, List.getElem?_cons_succ] at this
      rw [← Nat.add_assoc] at this
      exact this) (fun n hn => hw n (by simp only [List.map_cons, DataW.weightsEach, List.mem_append]; exact .inr hn))
    refine ⟨(y, z), ⟨_, _, ?_, hK, hK2⟩, hy, hz⟩
    rw [← List.drop_drop, List.take_append_drop]
theorem opens_struct {α β : Type} {t : TypeId} {fs : Array Field} {gs : List (TypeId × Nat)} {d : Kd α} {ok : α → Prop} {f : β → α} (mk : α → β) (hmk : ∀ z, f (mk z) = z) (ht : P.underlying t = some (.struct fs))
    (hc : P.cellsOf t = (gs.map (·.2)).sum) (hg : fs.toList.map (fun f => (f.type, P.cellsOf f.type)) = gs) (ho : (fs.toList.map (·.offset)) = (List.range gs.length).map (fun i => ((gs.take i).map (·.2)).sum))
    (h : OpensF enc P W 0 gs d ok) : Opens enc P W t (Kd.iso d f) (fun y => ok (f y)) := by
  intro fuel cs x hx hw
  obtain ⟨xs, n, _, rfl, hl, hlen, hf⟩ := DataW.trod_struct ht hx
  have hlg : gs.length = fs.size := by rw [← hg]; simp
  obtain ⟨y, hK, hy⟩ := h n cs xs (by omega) (by omega) (fun i t' m' hi => by
    have hi' : i < gs.length := (List.getElem?_eq_some_iff.1 hi).1
    have hi2 : i < fs.size := by omega
    have e1 : (fs.toList.map (fun f => (f.type, P.cellsOf f.type)))[i]? = some (t', m') := by rw [hg]; exact hi
    rw [List.getElem?_map, List.getElem?_eq_getElem (by simpa using hi2)] at e1
    simp only [Option.map_some, Option.some.injEq, Prod.mk.injEq, Array.getElem_toList] at e1
    have e2 : (fs.toList.map (·.offset))[i]? = some (((gs.take i).map (·.2)).sum) := by rw [ho]; simp [hi']
    rw [List.getElem?_map, List.getElem?_eq_getElem (by simpa using hi2)] at e2
    simp only [Option.map_some, Option.some.injEq, Array.getElem_toList] at e2
    have := hf i fs[i] (by simp [hi2])
    obtain ⟨rfl, rfl⟩ := e1
    rw [e2] at this
    rw [Nat.zero_add]
    exact this) (fun n hn => hw n (by
      rw [DataW.weights, ht]
      simp only
      rw [show fs.toList.map (·.type) = gs.map (·.1) from by rw [← hg]; simp]
      exact hn))
  exact ⟨mk y, by simpa [Kd.iso, hmk] using hK, by show ok (f (mk y)); rw [hmk]; exact hy⟩
theorem opens_imp {α : Type} {t : TypeId} {d : Kd α} {ok ok' : α → Prop} (h : Opens enc P W t d ok) (hi : ∀ x, ok x → ok' x) : Opens enc P W t d ok' := by
  intro fuel cs x hx hw
  obtain ⟨y, hK, hy⟩ := h _ _ _ hx hw
  exact ⟨y, hK, hi y hy⟩
/-- An argument of such a type. -/
theorem opens_arg {α : Type} {t : TypeId} {d : Kd α} {ok : α → Prop} (h : Opens enc P W t d ok) {ts : List TypeId} {ds : List (DataW H)} {j : Nat} {x : DataW H} {v : Value} {ps : List MemPlace}
    (hsz : (DataW.weightsEach P ts ds).all (· ≤ reachBytes) = true) (ht : ts[j]? = some t) (hd : ds[j]? = some x) (hx : DataW.Trod enc P W 0 (fun _ => true) true t v x ps) : ∃ y, d.K W y v.cells.toList ∧ ok y := by
  obtain ⟨fuel, hf⟩ := hx
  exact h _ _ _ hf (fun n hn => by
    have := List.all_eq_true.1 hsz _ (DataW.weights_mem_each ht hd n hn)
    have z := of_decide_eq_true this
    simpa [reachBytes] using z)
theorem cells_slice {a : Option Addr} {len cap : Nat} {α : Type} {e : Nat} {d : Kd α} {xs : List α} (h : (Kd.slice e d).K W xs (Value.slice a len cap).cells.toList) : len = xs.length ∧ xs.length ≤ cap ∧ d.C W a xs.length xs := by
  obtain ⟨A, c, he, hl, hC⟩ := h
  simp [Value.cells] at he
  obtain ⟨rfl, rfl, rfl⟩ := he
  exact ⟨rfl, hl, hC⟩
theorem toArray_eq {cs : Array Value} {l : List Value} (h : (Value.agg cs).cells.toList = l) : cs = l.toArray := by
  simp [Value.cells] at h
  rw [← h]
end
end Go.Proofs.YtpfikmchimlneaaW.OpenKd
