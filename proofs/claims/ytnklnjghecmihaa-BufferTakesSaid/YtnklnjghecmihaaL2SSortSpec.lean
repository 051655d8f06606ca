/- Rows that are sorted by a weak order, and rows that hold, class by class, the same in the same order: no program in sight. No condition. -/
import Derived.Test.YtnklnjghecmihaaL2V0
set_option linter.unusedVariables false
set_option linter.unusedSimpArgs false
namespace Go.Proofs.Ytnklnjghecmihaa.Fh
/-- a strict weak order -/
structure SW {α : Type} (lt : α → α → Bool) : Prop where
 irr : ∀ a, lt a a = false
 tr : ∀ a b c, lt a b = true → lt b c = true → lt a c = true
 ng : ∀ a b c, lt a c = true → lt a b = true ∨ lt b c = true
section
variable {α : Type} {lt : α → α → Bool}
def eqv (lt : α → α → Bool) (a b : α) : Bool := !lt a b && !lt b a
def Sd (lt : α → α → Bool) (l : List α) : Prop := l.Pairwise fun a b => lt b a = false
/-- class by class the same -/
def St (lt : α → α → Bool) (l m : List α) : Prop := ∀ c, l.filter (eqv lt c) = m.filter (eqv lt c)
theorem O9 (S : SW lt) (a : α) : eqv lt a a = true := by unfold eqv; rw [S.irr]; rfl
theorem St.refl (l : List α) : St lt l l := fun _ => rfl
theorem St.symm {l m : List α} (h : St lt l m) : St lt m l := fun c => (h c).symm
theorem St.trans {l m n : List α} (h : St lt l m) (h2 : St lt m n) : St lt l n := fun c => (h c).trans (h2 c)
theorem St.app {a b c d : List α} (h : St lt a b) (h2 : St lt c d) : St lt (a ++ c) (b ++ d) := fun x => by rw [List.filter_append, List.filter_append, h x, h2 x]
theorem St.mem (S : SW lt) {l m : List α} (h : St lt l m) (x : α) (hx : x ∈ l) : x ∈ m := by
 have h1 : x ∈ l.filter (eqv lt x) := List.mem_filter.2 ⟨hx, O9 S x⟩
 rw [h x] at h1
 exact (List.mem_filter.1 h1).1
theorem asym (S : SW lt) {a b : α} (h : lt a b = true) : lt b a = false := by
 cases h2 : lt b a with
 | false => rfl
 | true =>
  have := S.tr a b a h h2
  rw [S.irr] at this
  cases this
theorem le_trans (S : SW lt) {a b c : α} (h : lt b a = false) (h2 : lt c b = false) : lt c a = false := by
 cases h3 : lt c a with
 | false => rfl
 | true =>
  rcases S.ng c b a h3 with h4 | h4
  ·rw [h4] at h2; cases h2
  ·rw [h4] at h; cases h
theorem alH (S : SW lt) {a b c : α} (h : lt a b = true) (h2 : lt c b = false) : lt a c = true := by
 rcases S.ng a c b h with h3 | h3
 ·exact h3
 ·rw [h3] at h2; cases h2
theorem as7 (S : SW lt) {a b c : α} (h : lt b a = false) (h2 : lt b c = true) : lt a c = true := by
 rcases S.ng b a c h2 with h3 | h3
 ·rw [h3] at h; cases h
 ·exact h3
theorem uniq (S : SW lt) : ∀ (l m : List α), Sd lt l → Sd lt m → St lt l m → l = m
 | [], [], _, _, _ => rfl
 | [], b :: t, _, _, h => by
  have := St.mem S h.symm b (List.mem_cons_self ..)
  cases this
 | a :: t, [], _, _, h => by
  have := St.mem S h a (List.mem_cons_self ..)
  cases this
 | a :: t1, b :: t2, h1, h2, h => by
  have ha := List.pairwise_cons.1 h1
  have hb := List.pairwise_cons.1 h2
  have hab : lt a b = false := by
   rcases List.mem_cons.1 (St.mem S h a (List.mem_cons_self ..)) with rfl | hm
   ·exact S.irr _
   ·exact hb.1 a hm
  have hba : lt b a = false := by
   rcases List.mem_cons.1 (St.mem S h.symm b (List.mem_cons_self ..)) with rfl | hm
   ·exact S.irr _
   ·exact ha.1 b hm
  have e : eqv lt a b = true := by unfold eqv; rw [hab, hba]; rfl
  have h3 := h a
  rw [List.filter_cons, List.filter_cons, if_pos (O9 S a), if_pos e] at h3
  injection h3 with h4 h5
  subst h4
  have ht : St lt t1 t2 := by
   intro c
   have h6 := h c
   rw [List.filter_cons, List.filter_cons] at h6
   cases hc : eqv lt c a with
   | true =>
    rw [hc, if_pos rfl, if_pos rfl] at h6
    injection h6
   | false =>
    rw [hc, if_neg (by decide), if_neg (by decide)] at h6
    exact h6
  rw [uniq S t1 t2 ha.2 hb.2 ht]
/-- two runs, of which all of one is above all of the other, may change places -/
theorem St.swap (S : SW lt) {u v : List α} (h : ∀ a ∈ u, ∀ b ∈ v, lt b a = true) : St lt (u ++ v) (v ++ u) := by
 intro c
 rw [List.filter_append, List.filter_append]
 cases hu : u.filter (eqv lt c) with
 | nil => rw [List.nil_append, List.append_nil]
 | cons a t =>
  cases hv : v.filter (eqv lt c) with
  | nil => rw [List.nil_append, List.append_nil]
  | cons b t2 =>
   exfalso
   have ma := List.mem_filter.1 (show a ∈ u.filter (eqv lt c) by rw [hu]; exact List.mem_cons_self ..)
   have mb := List.mem_filter.1 (show b ∈ v.filter (eqv lt c) by rw [hv]; exact List.mem_cons_self ..)
   have ea := ma.2
   have eb := mb.2
   unfold eqv at ea eb
   simp at ea eb
   rcases S.ng b c a (h a ma.1 b mb.1) with h1 | h1
   ·rw [h1] at eb; exact absurd eb.2 (by decide)
   ·rw [h1] at ea; exact absurd ea.1 (by decide)
/-- a sorted run parts, at a value, in what is below it and what is not -/
theorem ag5 (S : SW lt) (x : α) : ∀ l, Sd lt l → ∃ a b, l = a ++ b ∧ (∀ y ∈ a, lt y x = true) ∧ (∀ y ∈ b, lt y x = false)
 | [], _ => ⟨[], [], rfl, by simp, by simp⟩
 | y :: t, h => by
  have hy := List.pairwise_cons.1 h
  cases hx : lt y x with
  | true =>
   obtain ⟨a, b, rfl, h1, h2⟩ := ag5 S x t hy.2
   refine ⟨y :: a, b, rfl, ?_, h2⟩
   intro z hz
   rcases List.mem_cons.1 hz with rfl | hz
   ·exact hx
   ·exact h1 z hz
  | false =>
   refine ⟨[], y :: t, rfl, by simp, ?_⟩
   intro z hz
   rcases List.mem_cons.1 hz with rfl | hz
   ·exact hx
   ·exact le_trans S hx (hy.1 z hz)
theorem Tc (S : SW lt) (x : α) : ∀ l, Sd lt l → ∃ a b, l = a ++ b ∧ (∀ y ∈ a, lt x y = false) ∧ (∀ y ∈ b, lt x y = true)
 | [], _ => ⟨[], [], rfl, by simp, by simp⟩
 | y :: t, h => by
  have hy := List.pairwise_cons.1 h
  cases hx : lt x y with
  | false =>
   obtain ⟨a, b, rfl, h1, h2⟩ := Tc S x t hy.2
   refine ⟨y :: a, b, rfl, ?_, h2⟩
   intro z hz
   rcases List.mem_cons.1 hz with rfl | hz
   ·exact hx
   ·exact h1 z hz
  | true =>
   refine ⟨[], y :: t, rfl, by simp, ?_⟩
   intro z hz
   rcases List.mem_cons.1 hz with rfl | hz
   ·exact hx
   ·exact alH S hx (hy.1 z hz)
theorem Sd.app {a b : List α} (h1 : Sd lt a) (h2 : Sd lt b) (h : ∀ x ∈ a, ∀ y ∈ b, lt y x = false) : Sd lt (a ++ b) := by
 unfold Sd
 rw [List.pairwise_append]
 exact ⟨h1, h2, h⟩
theorem Sd.left {a b : List α} (h : Sd lt (a ++ b)) : Sd lt a := by
 unfold Sd at h
 rw [List.pairwise_append] at h
 exact h.1
theorem Sd.right {a b : List α} (h : Sd lt (a ++ b)) : Sd lt b := by
 unfold Sd at h
 rw [List.pairwise_append] at h
 exact h.2.1
theorem Sd.cross {a b : List α} (h : Sd lt (a ++ b)) : ∀ x ∈ a, ∀ y ∈ b, lt y x = false := by
 unfold Sd at h
 rw [List.pairwise_append] at h
 exact h.2.2
theorem Sd.one (x : α) : Sd lt [x] := List.pairwise_singleton _ _
theorem Sd.nil : Sd lt ([] : List α) := List.Pairwise.nil
/-- one value into a sorted run -/
theorem ZT (S : SW lt) {a b : List α} {x : α} (h : Sd lt (a ++ b)) (h1 : ∀ y ∈ a, lt x y = false) (h2 : ∀ y ∈ b, lt y x = false) : Sd lt (a ++ x :: b) := by
 refine Sd.app h.left (List.pairwise_cons.2 ⟨h2, h.right⟩) ?_
 intro y hy z hz
 rcases List.mem_cons.1 hz with rfl | hz
 ·exact h1 y hy
 ·exact h.cross y hy z hz
/-- rows of runs of one length, each sorted; the last may be shorter -/
inductive Bk (lt : α → α → Bool) (bs : Nat) : List α → Prop where
 | last (l : List α) : l.length ≤ bs → Sd lt l → Bk lt bs l
 | cons (a l : List α) : a.length = bs → Sd lt a → Bk lt bs l → Bk lt bs (a ++ l)
theorem Bk.done {bs : Nat} (hb : 0 < bs) {l : List α} (h : Bk lt bs l) (hl : l.length ≤ bs) : Sd lt l := by
 cases h with
 | last _ _ h => exact h
 | cons a l2 ha hs h2 =>
  rw [List.length_append] at hl
  have : l2 = [] := List.eq_nil_of_length_eq_zero (by omega)
  subst this
  rwa [List.append_nil]
end
/-- from some fuel on -/
def Ev (p : Nat → Prop) : Prop := ∃ K, ∀ k, K ≤ k → p k
theorem Ev.of {p : Nat → Prop} (K : Nat) (h : ∀ k, K ≤ k → p k) : Ev p := ⟨K, h⟩
theorem Ev.and {p q : Nat → Prop} (h : Ev p) (h2 : Ev q) : Ev fun k => p k ∧ q k := by
 obtain ⟨K, h⟩ := h
 obtain ⟨K2, h2⟩ := h2
 exact ⟨max K K2, fun k hk => ⟨h k (by omega), h2 k (by omega)⟩⟩
theorem Ev.mono {p q : Nat → Prop} (h : Ev p) (f : ∀ k, p k → q k) : Ev q := by
 obtain ⟨K, h⟩ := h
 exact ⟨K, fun k hk => f k (h k hk)⟩
/-- a step that spends one -/
theorem Ev.step {p q : Nat → Prop} (h : Ev p) (f : ∀ k, p k → q (k + 1)) : Ev q := by
 obtain ⟨K, h⟩ := h
 refine ⟨K + 1, fun k hk => ?_⟩
 obtain ⟨k, rfl⟩ : ∃ k2, k = k2 + 1 := ⟨k - 1, by omega⟩
 exact f k (h k (by omega))
theorem Ev.all (p : Prop) (h : p) : Ev fun _ => p := ⟨0, fun _ _ => h⟩
end Go.Proofs.Ytnklnjghecmihaa.Fh
