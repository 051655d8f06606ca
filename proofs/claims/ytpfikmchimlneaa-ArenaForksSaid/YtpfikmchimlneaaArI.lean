/- The arena's methods. -/
import Derived.Test.YtpfikmchimlneaaProg
import Derived.Test.YtpfikmchimlneaaAr
import Derived.Test.YtpfikmchimlneaaWMore
import Derived.Test.YtpfikmchimlneaaWLast
import Derived.Outline
import Derived.Deep.QuietTactic
import Derived.BigQuiet
import Derived.Deep.RegionLaw
import Derived.Deep.Light
set_option linter.unusedVariables false
set_option linter.unusedSimpArgs false
namespace Go.Proofs.Ytpfikmchimlneaa.Ar
open Go.RowKit Go.Proofs.YtpfikmchimlneaaW.PrintWords Go.Proofs.YtpfikmchimlneaaW.PrintWords.Kd Go.Proofs.YtpfikmchimlneaaW.PrintLast Go.Proofs.YtpfikmchimlneaaW.PrintMore Go.Proofs.YtpfikmchimlneaaW.Sl Go.Proofs.YtpfikmchimlneaaW.Ar
abbrev AI := At (Value.int .i64) (fun _ => rfl) 110 142
variable {B g : Nat} {v : Value} {s : St Int}
set_option maxHeartbeats 4000000 in
set_option maxRecDepth 100000 in
theorem left_int (w : World) (h : AI B w g v s) (h0 : 0 ≤ s.used) (h1 : s.used ≤ s.most) (h2 : s.most < 1000000) :
    Calls Try.prog 19 #[.pointer (some ⟨g, 0, none⟩)] w fun e w' => e = .returned (.int .i64 (s.most - s.used)) ∧ Below w.heap.size w w' := by
  have b0 := h.c0
  have b1 := h.c1
  have b2 := h.c2
  have b3 := h.c3
  have hw : IntKind.i64.wrap (s.most - s.used) = s.most - s.used := by rw [IntKind.wrap_i64]; omega
  clear h
  go_enter Try.func19, Try.ntmps19
  go_wp2
  go_quiet (fail)
  go_wp2
  go_ret
  exact ⟨rfl, pw_below_drewN (Below.refl _ _) _⟩
set_option maxHeartbeats 4000000 in
set_option maxRecDepth 100000 in
theorem len_int (w : World) (h : AI B w g v s) :
    Calls Try.prog 25 #[.pointer (some ⟨g, 0, none⟩)] w fun e w' => e = .returned (.int .i64 s.used) ∧ w = w' := by
  have b2 := h.c2
  clear h
  go_enter Try.func25, Try.ntmps25
  go_wp2
  go_ret
  exact ⟨rfl, rfl⟩
set_option maxHeartbeats 4000000 in
set_option maxRecDepth 100000 in
theorem top_int (w : World) (h : AI B w g v s) :
    Calls Try.prog 65 #[.pointer (some ⟨g, 0, none⟩)] w fun e w' => e = .returned (.int .i64 (s.cells.length : Int)) ∧ w = w' := by
  have b0 := h.c0
  obtain ⟨A, c, rfl⟩ := R_slice h.row
  clear h
  go_enter Try.func65, Try.ntmps65
  go_wp2
  go_ret
  exact ⟨rfl, rfl⟩
theorem at_new (w : World) (B : Nat) (hB : B ≤ w.heap.size) (most : Int) : AI B (w.alloc (.cells #[.slice none 0 0, .int .i64 0, .int .i64 0, .int .i64 most] 110)) w.heap.size (.slice none 0 0) ⟨[], 0, 0, most⟩ :=
  ⟨hB, blk_new w _, R_nil _ _ _ _ _, fun _ => rfl⟩
set_option maxHeartbeats 4000000 in
set_option maxRecDepth 100000 in
theorem new_int (w : World) (most : Int) (h1 : 1 ≤ most) (h2 : most ≤ 4096) :
    Calls Try.prog 18 #[.int .i64 most] w fun e w' => e = .returned (.tuple #[.pointer (some ⟨w.heap.size, 0, none⟩), .int .i64 0]) ∧ w' = w.alloc (.cells #[.slice none 0 0, .int .i64 0, .int .i64 0, .int .i64 most] 110) := by
  go_enter Try.func18, Try.ntmps18
  go_wp2
  go_ret2
  exact ⟨rfl, rfl⟩
set_option maxHeartbeats 4000000 in
set_option maxRecDepth 100000 in
theorem new_not_int (w : World) (most : Int) (h1 : most < 1 ∨ 4096 < most) :
    Calls Try.prog 18 #[.int .i64 most] w fun e w' => e = .returned (.tuple #[.pointer none, .int .i64 2]) ∧ w = w' := by
  rcases h1 with h1 | h1
  · go_enter Try.func18, Try.ntmps18
    go_wp2
    go_ret2
    exact ⟨rfl, rfl⟩
  · have h0 : 1 ≤ most := by omega
    go_enter Try.func18, Try.ntmps18
    go_wp2
    go_ret2
    exact ⟨rfl, rfl⟩
theorem has_no (i : Int) (h : s.has i = false) : i < 1 ∨ (s.cells.length : Int) < i ∨ ∃ j : Nat, i = (j : Int) + 1 ∧ j < s.cells.length ∧ (s.cells.getD j (0, false, 0)).2.1 = false := by
  by_cases h1 : i < 1
  · exact .inl h1
  by_cases h2 : (s.cells.length : Int) < i
  · exact .inr (.inl h2)
  refine .inr (.inr ⟨(i - 1).toNat, by omega, by omega, ?_⟩)
  have h3 : (i - 1).toNat < s.cells.length := by omega
  unfold St.has at h
  rw [decide_eq_true (show 1 ≤ i by omega), decide_eq_true (show i ≤ (s.cells.length : Int) by omega), List.getElem?_eq_getElem h3] at h
  rw [List.getD_eq_getElem?_getD, List.getElem?_eq_getElem h3]
  simpa using h
theorem has_yes (i : Int) (h : s.has i = true) : ∃ j : Nat, i = (j : Int) + 1 ∧ j < s.cells.length ∧ (s.cells.getD j (0, false, 0)).2.1 = true := by
  unfold St.has at h
  simp only [Bool.and_eq_true, decide_eq_true_eq] at h
  obtain ⟨⟨h1, h2⟩, h⟩ := h
  have h3 : (i - 1).toNat < s.cells.length := by omega
  refine ⟨(i - 1).toNat, by omega, h3, ?_⟩
  rw [List.getElem?_eq_getElem h3] at h
  rw [List.getD_eq_getElem?_getD, List.getElem?_eq_getElem h3]
  simpa using h
set_option maxHeartbeats 4000000 in
set_option maxRecDepth 100000 in
theorem at_no_int (w : World) (h : AI B w g v s) (i : Int) (hi : s.has i = false) (hl : s.cells.length < 1000000) :
    Calls Try.prog 92 #[.pointer (some ⟨g, 0, none⟩), .int .i64 i] w fun e w' => e = .returned (.pointer none) ∧ w = w' := by
  have b0 := h.c0
  rcases has_no i hi with h1 | h1 | ⟨j, rfl, hj, ht⟩
  · clear hi
    go_enter Try.func92, Try.ntmps92
    go_wp2
    go_ret
    exact ⟨rfl, rfl⟩
  · have h2 : 1 ≤ i := by omega
    obtain ⟨A, c, rfl⟩ := R_slice h.row
    clear hi h
    go_enter Try.func92, Try.ntmps92
    go_wp2
    go_ret
    exact ⟨rfl, rfl⟩
  · obtain ⟨gc, c, rfl, hc, _, _, e0, e1, e2, _⟩ := h.elem (0, false, 0) j hj
    rw [ht] at e1
    clear hi h ht e0 e2
    go_enter Try.func92, Try.ntmps92
    go_wp2
    go_ret
    exact ⟨rfl, rfl⟩
set_option maxHeartbeats 4000000 in
set_option maxRecDepth 100000 in
theorem at_yes_int (w : World) (gc c : Nat) (h : AI B w g (.slice (some ⟨gc, 0, none⟩) s.cells.length c) s) (j : Nat) (hj : j < s.cells.length) (ht : (s.cells.getD j (0, false, 0)).2.1 = true) (hl : s.cells.length < 1000000) :
    Calls Try.prog 92 #[.pointer (some ⟨g, 0, none⟩), .int .i64 ((j : Int) + 1)] w fun e w' => e = .returned (.pointer (some ⟨gc, j * 3, none⟩)) ∧ w = w' := by
  have b0 := h.c0
  obtain ⟨gc2, c2, hv, hc, _, _, e0, e1, e2, _⟩ := h.elem (0, false, 0) j hj
  simp only [Value.slice.injEq, Option.some.injEq, Addr.mk.injEq, true_and, and_true] at hv
  obtain ⟨rfl, rfl⟩ := hv
  rw [ht] at e1
  clear h ht e0 e2
  go_enter Try.func92, Try.ntmps92
  go_wp2
  go_ret
  exact ⟨rfl, rfl⟩
/-- what Get tells -/
def get (s : St Int) (i : Int) : Int × Bool := if s.has i = true then ((s.cells.getD (i - 1).toNat (0, false, 0)).1, true) else (0, false)
set_option maxHeartbeats 4000000 in
set_option maxRecDepth 100000 in
theorem get_int (w : World) (h : AI B w g v s) (i : Int) (hl : s.cells.length < 1000000) :
    Calls Try.prog 55 #[.pointer (some ⟨g, 0, none⟩), .int .i64 i] w fun e w' => e = .returned (.tuple #[.int .i64 (get s i).1, .bool (get s i).2]) ∧ w = w' := by
  unfold get
  cases hi : s.has i
  · rw [if_neg (by decide)]
    have HI := Aside0.mk hi
    have HH := Aside0.mk h
    clear hi h
    go_enter Try.func55, Try.ntmps55
    go_wp2_with (go_at_call 92; refine (at_no_int w HH.out i HI.out hl).mono ?_; rintro e w' ⟨rfl, rfl⟩)
    go_ret2
    exact ⟨rfl, rfl⟩
  · rw [if_pos rfl]
    obtain ⟨j, rfl, hj, ht⟩ := has_yes i hi
    obtain ⟨gc, c, rfl, hc, _, _, e0, e1, e2, _⟩ := h.elem (0, false, 0) j hj
    have hj2 : ((j : Int) + 1 - 1).toNat = j := by omega
    rw [hj2]
    have HI := Aside0.mk ht
    have HH := Aside0.mk h
    clear hi h ht e1 e2 hj2
    generalize (s.cells.getD j (0, false, 0)).1 = y at *
    go_enter Try.func55, Try.ntmps55
    go_wp2_with (go_at_call 92; refine (at_yes_int w gc c HH.out j hj HI.out hl).mono ?_; rintro e w' ⟨rfl, rfl⟩)
    go_ret2
    exact ⟨rfl, rfl⟩
/-- what becomes of an arena -/
structure Does (B : Nat) (w : World) (g : Nat) (v : Value) (s' : St Int) (w' : World) : Prop where mk ::
  out : ∃ v', AI B w' g v' s' ∧ Only g v.ownBlock w w' ∧ Same w v v'
theorem does_refl {w : World} (h : AI B w g v s) : Does B w g v s w := ⟨v, h, .refl _ _ _, .refl _ _⟩
def setv (s : St Int) (i x : Int) : St Int := { s with cells := s.cells.set (i - 1).toNat (x, (s.cells.getD (i - 1).toNat (0, false, 0)).2) }
set_option maxHeartbeats 4000000 in
set_option maxRecDepth 100000 in
theorem set_no_int (w : World) (h : AI B w g v s) (i x : Int) (hi : s.has i = false) (hl : s.cells.length < 1000000) :
    Calls Try.prog 62 #[.pointer (some ⟨g, 0, none⟩), .int .i64 i, .int .i64 x] w fun e w' => e = .returned (.int .i64 14) ∧ w = w' := by
  have HI := Aside0.mk hi
  have HH := Aside0.mk h
  clear hi h
  go_enter Try.func62, Try.ntmps62
  go_wp2_with (go_at_call 92; refine (at_no_int w HH.out i HI.out hl).mono ?_; rintro e w' ⟨rfl, rfl⟩)
  go_ret
  exact ⟨rfl, rfl⟩
set_option maxHeartbeats 4000000 in
set_option maxRecDepth 100000 in
theorem set_yes_int (w : World) (h : AI B w g v s) (i x : Int) (hi : s.has i = true) (hl : s.cells.length < 1000000) :
    Calls Try.prog 62 #[.pointer (some ⟨g, 0, none⟩), .int .i64 i, .int .i64 x] w fun e w' => e = .returned (.int .i64 0) ∧ Does B w g v (setv s i x) w' := by
  obtain ⟨j, rfl, hj, ht⟩ := has_yes i hi
  obtain ⟨gc, c, rfl, hc, _, _, e0, e1, e2, hf⟩ := h.elem (0, false, 0) j hj
  have hj2 : ((j : Int) + 1 - 1).toNat = j := by omega
  have HS := Aside0.mk (h.val (show 110 ≠ 142 by decide) j hj (0, false, 0) x)
  have HI := Aside0.mk ht
  have HH := Aside0.mk h
  have HJ := Aside0.mk hj2
  have hf0 := hf 0
  rw [Nat.add_zero] at hf0
  clear hi h ht e1 e2 hj2 hf
  go_enter Try.func62, Try.ntmps62
  go_wp2_with (go_at_call 92; refine (at_yes_int w gc c HH.out j hj HI.out hl).mono ?_; rintro e w' ⟨rfl, rfl⟩)
  go_ret
  refine ⟨rfl, _, ?_, .of_row HS.out.2, .refl _ _⟩
  unfold setv
  rw [HJ.out]
  exact HS.out.1
def give (s : St Int) (i : Int) : St Int := { s with cells := s.cells.set (i - 1).toNat (0, false, s.free), free := i, used := s.used - 1 }
set_option maxHeartbeats 4000000 in
set_option maxRecDepth 100000 in
theorem give_no_int (w : World) (h : AI B w g v s) (i : Int) (hi : s.has i = false) (hl : s.cells.length < 1000000) :
    Calls Try.prog 54 #[.pointer (some ⟨g, 0, none⟩), .int .i64 i] w fun e w' => e = .returned (.int .i64 14) ∧ w = w' := by
  have HI := Aside0.mk hi
  have HH := Aside0.mk h
  clear hi h
  go_enter Try.func54, Try.ntmps54
  go_wp2_with (go_at_call 92; refine (at_no_int w HH.out i HI.out hl).mono ?_; rintro e w' ⟨rfl, rfl⟩)
  go_ret
  exact ⟨rfl, rfl⟩
set_option maxHeartbeats 4000000 in
set_option maxRecDepth 100000 in
theorem give_yes_int (w : World) (h : AI B w g v s) (i : Int) (hi : s.has i = true) (hl : s.cells.length < 1000000) (hu : 0 < s.used) (hu2 : s.used < 1000000) :
    Calls Try.prog 54 #[.pointer (some ⟨g, 0, none⟩), .int .i64 i] w fun e w' => e = .returned (.int .i64 0) ∧ Does B w g v (give s i) w' := by
  obtain ⟨j, rfl, hj, ht⟩ := has_yes i hi
  obtain ⟨gc, c, rfl, hc, _, _, e0, e1, e2, hf⟩ := h.elem (0, false, 0) j hj
  have hj2 : ((j : Int) + 1 - 1).toNat = j := by omega
  have hT : (110 : Nat) ≠ 142 := by decide
  have hp := h.put hT j hj (0, false, s.free)
  have hne : gc ≠ g := fun e => h.ne hT (by rw [← e]; rfl)
  have hne2 : g ≠ gc := fun e => hne e.symm
  have hr : (Value.slice (some ⟨gc, 0, none⟩) s.cells.length c).ownBlock = some gc := rfl
  have hS : AI B (((((w.setCell ⟨gc, j * 3, none⟩ (.int .i64 0)).setCell ⟨gc, j * 3 + 1, none⟩ (.bool false)).setCell ⟨gc, j * 3 + 2, none⟩ (.int .i64 s.free)).setCell ⟨g, 1, none⟩ (.int .i64 ((j : Int) + 1))).setCell ⟨g, 2, none⟩ (.int .i64 (s.used - 1))) g (.slice (some ⟨gc, 0, none⟩) s.cells.length c) (give s ((j : Int) + 1)) := by
    unfold give
    rw [hj2]
    exact (hp.1.free hT ((j : Int) + 1)).used hT (s.used - 1)
  have hO : Only g (Value.slice (some ⟨gc, 0, none⟩) s.cells.length c).ownBlock w (((((w.setCell ⟨gc, j * 3, none⟩ (.int .i64 0)).setCell ⟨gc, j * 3 + 1, none⟩ (.bool false)).setCell ⟨gc, j * 3 + 2, none⟩ (.int .i64 s.free)).setCell ⟨g, 1, none⟩ (.int .i64 ((j : Int) + 1))).setCell ⟨g, 2, none⟩ (.int .i64 (s.used - 1))) :=
    ((Only.of_row hp.2).trans (.refl _ _) (.of_grown (set_grown _ _ _ _))).trans (.refl _ _) (.of_grown (set_grown _ _ _ _))
  have HS := Aside0.mk hS
  have HO := Aside0.mk hO
  have b1 := h.c1
  have b2 := h.c2
  have f1 := h.fz 1
  have f2 := h.fz 2
  have hf0 := hf 0
  have hf1 := hf 1
  have hf2 := hf 2
  rw [Nat.add_zero] at hf0
  have HI := Aside0.mk ht
  have HH := Aside0.mk h
  have HJ := Aside0.mk hj2
  clear hi h ht hj2 hf hp hS hO hr
  generalize (s.cells.getD j (0, false, 0)).1 = y0 at e0
  generalize (s.cells.getD j (0, false, 0)).2.1 = y1 at e1
  generalize (s.cells.getD j (0, false, 0)).2.2 = y2 at e2
  go_enter Try.func54, Try.ntmps54
  go_wp2_with (go_at_call 92; refine (at_yes_int w gc c HH.out j hj HI.out hl).mono ?_; rintro e w' ⟨rfl, rfl⟩)
  go_ret
  exact ⟨rfl, _, HS.out, HO.out, .refl _ _⟩
set_option maxHeartbeats 4000000 in
set_option maxRecDepth 100000 in
theorem clip_int (w : World) (A : Option Addr) (n c : Nat) (hn : n ≤ c) (hn2 : n < 1000000000) :
    Calls Try.prog 91 #[.slice A n c] w fun e w' => e = .returned (.slice A n n) ∧ w = w' := by
  go_enter Try.func91, Try.ntmps91
  go_wp2
  go_ret
  exact ⟨rfl, rfl⟩
def many_not_post (w : World) (k : Int) (e : Ending) (w' : World) : Prop := e = .returned (.tuple #[.slice none 0 0, .int .i64 k]) ∧ Below w.heap.size w w'
set_option maxHeartbeats 4000000 in
set_option maxRecDepth 100000 in
theorem many_neg_int (w : World) (n x : Int) (hn : n < 0) :
    Calls Try.prog 57 #[.pointer (some ⟨g, 0, none⟩), .int .i64 n, .int .i64 x] w (many_not_post w 2) := by
  go_enter Try.func57, Try.ntmps57
  go_wp2
  go_ret2
  exact ⟨rfl, .refl _ _⟩
set_option maxHeartbeats 4000000 in
set_option maxRecDepth 100000 in
theorem many_full_int (w : World) (h : AI B w g v s) (n x : Int) (h0 : 0 ≤ s.used) (h1 : s.used ≤ s.most) (h2 : s.most < 1000000) (hn : s.most - s.used < n) :
    Calls Try.prog 57 #[.pointer (some ⟨g, 0, none⟩), .int .i64 n, .int .i64 x] w (many_not_post w 9) := by
  have hn0 : 0 ≤ n := by omega
  have HH := Aside0.mk h
  clear h
  go_enter Try.func57, Try.ntmps57
  go_wp2_with (go_at_call 19; refine (left_int w HH.out h0 h1 h2).mono ?_; rintro e w1 ⟨rfl, hb⟩; have HB := Aside0.mk hb; clear hb)
  go_ret2
  exact ⟨rfl, HB.out⟩
theorem info3 : (Try.prog.info? 3).map (fun i => (i.zero, i.size, i.bytes)) = some (some (.int .i64 0), 1, 8) := by kernel_rfl
theorem info142 : (Try.prog.info? 142).map (fun i => (i.zero, i.size, i.bytes)) = some (some (.agg #[.int .i64 0, .bool false, .int .i64 0]), 3, 24) := by kernel_rfl
abbrev KI := kc (Value.int .i64) (fun _ => rfl)
/-- what the rounds of Many keep -/
structure MInv (B : Nat) (w : World) (g : Nat) (v : Value) (x : Int) (s' : St Int) (l : List Int) (m : Nat) (out : Value) (wr : World) : Prop where mk ::
  out : ∃ st v' pre rest, many m st x = some (s', rest) ∧ l = pre ++ rest ∧ pre.length + m < 1000000 ∧ AI B wr g v' st ∧ Only g v.ownBlock w wr ∧ Same w v v' ∧ (Kd.int .i64).R 3 wr w.heap.size (fun _ => True) out pre
def many_post (B : Nat) (w : World) (g : Nat) (v : Value) (s' : St Int) (l : List Int) (e : Ending) (w' : World) : Prop :=
  ∃ A, e = .returned (.tuple #[.slice A l.length l.length, .int .i64 0]) ∧ (Kd.int .i64).C w' A l.length l ∧ Does B w g v s' w'
theorem take1_bd {α : Type} {s s2 : St α} {x : α} {i : Int} (h : take1 s x = some (s2, i)) : 0 ≤ s.used ∧ s.used < 1000000 ∧ s.cells.length < 1000000 := by
  unfold take1 at h
  split at h
  · assumption
  · cases h
theorem take1_old {α : Type} {s s2 : St α} {x : α} {i : Int} (h : take1 s x = some (s2, i)) (hf : 0 < s.free) (z : α × Bool × Int) : ∃ j : Nat, s.free = (j : Int) + 1 ∧ j < s.cells.length ∧ i = (j : Int) + 1 ∧ s2 = { s with cells := s.cells.set j (x, true, 0), free := (s.cells.getD j z).2.2, used := s.used + 1 } := by
  unfold take1 at h
  rw [if_pos (take1_bd (by unfold take1; exact h)), if_pos hf] at h
  split at h
  · cases h
  · rename_i c hc
    obtain ⟨hl, he⟩ := List.getElem?_eq_some_iff.1 hc
    simp only [Option.some.injEq, Prod.mk.injEq] at h
    obtain ⟨rfl, rfl⟩ := h
    refine ⟨(s.free - 1).toNat, by omega, hl, by omega, ?_⟩
    rw [List.getD_eq_getElem?_getD, hc]
    rfl
theorem take1_new {α : Type} {s s2 : St α} {x : α} {i : Int} (h : take1 s x = some (s2, i)) (hf : ¬ 0 < s.free) : i = (s.cells.length : Int) + 1 ∧ s2 = { s with cells := s.cells ++ [(x, true, 0)], used := s.used + 1 } := by
  unfold take1 at h
  rw [if_pos (take1_bd (by unfold take1; exact h)), if_neg hf] at h
  simp only [Option.some.injEq, Prod.mk.injEq] at h
  exact ⟨h.2.symm, h.1.symm⟩
set_option maxHeartbeats 16000000 in
set_option maxRecDepth 100000 in
theorem many_int (w : World) (h : AI B w g v s) (n : Nat) (x : Int) (s' : St Int) (l : List Int) (hm : many n s x = some (s', l)) (h0 : 0 ≤ s.used) (h1 : s.used ≤ s.most) (h2 : s.most < 1000000) (hn : (n : Int) ≤ s.most - s.used) :
    Calls Try.prog 57 #[.pointer (some ⟨g, 0, none⟩), .int .i64 (n : Int), .int .i64 x] w (many_post B w g v s' l) := by
  have hn0 : (0 : Int) ≤ (n : Int) := by omega
  have hn1 : n < 1000000 := by omega
  have HH := Aside0.mk h
  have HM := Aside0.mk hm
  have hL := left_int w h h0 h1 h2
  obtain ⟨d, hd⟩ : ∃ d, s.most - s.used = d := ⟨_, rfl⟩
  rw [hd] at hL hn
  have HL := Aside0.mk hL
  clear h hm h0 h1 h2 hd hL
  go_enter Try.func57, Try.ntmps57
  go_wp2_with (go_at_call 19; refine HL.out.mono ?_; rintro e w1 ⟨rfl, hb⟩; have HB := Aside0.mk hb; clear hb HL)
  have HI : MInv B w g v x s' l n (.slice none 0 0) w1 := ⟨s, v, [], l, HM.out, rfl, by simpa using hn1, HH.out.keep HB.out, .of_below HB.out, .refl _ _, R_nil _ _ _ _ _⟩
  clear HM HH HB hn
  go_loopw [8, 22] (fun out i wr => ∃ k : Nat, i = .int .i64 (k : Int) ∧ k ≤ n ∧ MInv B w g v x s' l (n - k) out wr) (fun _ i _ => n - (intOf i).toNat)
  case atStart => exact ⟨0, rfl, Nat.zero_le _, HI⟩
  case round =>
    obtain ⟨k, rfl, hk, HK⟩ := hrel
    clear HI
    by_cases hlt : k < n
    · obtain ⟨m, hm⟩ : ∃ m, n - k = m + 1 := ⟨n - k - 1, by omega⟩
      rw [hm] at HK
      obtain ⟨st, v', pre, rest, hmany, hl, hpm, hA, hO, hS, hR⟩ := HK.out
      rw [many] at hmany
      obtain ⟨⟨s2, i⟩, ht, hqq⟩ := Option.bind_eq_some_iff.1 hmany
      obtain ⟨⟨s3, r3⟩, hq, hq2⟩ := Option.map_eq_some_iff.1 hqq
      clear hqq
      simp only [Prod.mk.injEq] at hq2
      obtain ⟨rfl, rfl⟩ := hq2
      obtain ⟨hu0, hu1, hu2⟩ := take1_bd ht
      have hT : (110 : Nat) ≠ 142 := by decide
      have hm2 : n - (k + 1) = m := by omega
      have HM2 := Aside0.mk hm2
      have b0 := hA.c0
      have b1 := hA.c1
      have b2 := hA.c2
      have f0 := hA.fz 0
      have f1 := hA.fz 1
      have f2 := hA.fz 2
      by_cases hf : 0 < st.free
      · obtain ⟨j, hfr, hj, rfl, rfl⟩ := take1_old ht hf (0, false, 0)
        obtain ⟨gc, c, rfl, hc, hgb, _, e0, e1, e2, hff⟩ := hA.elem (0, false, 0) j hj
        obtain ⟨h3, h4⟩ := hA.taken hT j hj (st.cells.getD j (0, false, 0)).2.2 (st.used + 1) x
        have hR2 := hA.rowOf h4 hR (by simp [Kd.int, Kd.scalar]) (by simp [Kd.int, Kd.scalar])
        have HRB := Aside0.mk (R_base hR)
        have HOO := Aside0.mk (hO.trans hS h4)
        have H3 := Aside0.mk h3
        have HR2 := Aside0.mk hR2
        have HS := Aside0.mk hS
        have HQ := Aside0.mk hq
        have HL := Aside0.mk hl
        have hne : gc ≠ g := fun e => hA.ne hT (by rw [← e]; rfl)
        have hne2 : g ≠ gc := fun e => hne e.symm
        have hf0 := hff 0
        have hf1 := hff 1
        have hf2 := hff 2
        rw [Nat.add_zero] at hf0
        rw [hfr] at b1
        have hpl : pre.length < 1000000 := by omega
        have HPL := Aside0.mk hpl
        have HPM := Aside0.mk hpm
        clear hR hq hl hR2 h3 h4 hS hO hmany ht hff HK hA hm hm2 hfr hf hpl hpm
        generalize (st.cells.getD j (0, false, 0)).1 = y0 at *
        generalize (st.cells.getD j (0, false, 0)).2.1 = y1 at *
        generalize (st.cells.getD j (0, false, 0)).2.2 = y2 at *
        go_wp2_with ((with_reducible refine gate_builtin (b := .append) (xs := #[.tmp 73, .tmp 75]) rfl ?_); at_builtin; refine Kd.R_append (Kd.int .i64) (w0 := _) w.heap.size rfl (.tmp 73) (.tmp 75) 40 3 (.int .i64 0) 8 rfl Try.underlying40 info3 rfl (by decide) (by decide) _ pre ((j : Int) + 1) [.int .i64 ((j : Int) + 1)] (fun _ => True) (fun _ => False) rfl (by first | rfl | (simp [Act.eval, World.setCell]; done)) rfl (fun _ h => h.elim) (fun _ _ => trivial) HR2.out (Below.refl _ _) HOO.out.size (by have := HPL.out; omega) ?_; intro v1 w3 hR9 hB9 hg9 hs9; have HR9 := Aside0.mk hR9; have HG9 := Aside0.mk hg9; clear hR9 hB9 hg9 hs9)
        go_roundw
        case rel =>
          refine ⟨k + 1, by simp, by omega, ⟨_, _, pre ++ [(j : Int) + 1], _, (by rw [HM2.out]; exact HQ.out), (by rw [HL.out]; simp), (by rw [HM2.out, List.length_append, List.length_singleton]; have := HPM.out; omega), H3.out.grownR HR2.out (by decide) (by decide) HG9.out, HOO.out.own HG9.out HRB.out, HS.out, HR9.out⟩⟩
        case measure => simp [intOf]; omega
      · obtain ⟨rfl, rfl⟩ := take1_new ht hf
        have HA := Aside0.mk hA
        have HR := Aside0.mk hR
        have HO := Aside0.mk hO
        have HS := Aside0.mk hS
        have HRB := Aside0.mk (R_base hR)
        have HQ := Aside0.mk hq
        have HL := Aside0.mk hl
        have HPM := Aside0.mk hpm
        have hBs : B ≤ wr.heap.size := Nat.le_of_lt (Nat.lt_of_le_of_lt hA.hg hA.lt)
        have HBS := Aside0.mk hBs
        have HU2 := Aside0.mk hu2
        have hf' : st.free ≤ 0 := by omega
        obtain ⟨A, c, rfl⟩ := R_slice hA.row
        clear hR hq hl hS hO hmany ht HK hm hm2 hpm hBs hf
        go_wp2_with (first
          | ((with_reducible refine gate_builtin (b := .append) (xs := #[.tmp 46, .tmp 48]) rfl ?_); at_builtin; refine Kd.R_append KI (w0 := _) B rfl (.tmp 46) (.tmp 48) 108 142 (.agg #[.int .i64 0, .bool false, .int .i64 0]) 24 rfl Try.underlying108 info142 rfl (by decide) (by decide) _ st.cells (0, false, 0) [.int .i64 0, .bool false, .int .i64 0] (fun _ => True) (fun _ => False) rfl (by first | rfl | (simp [Act.eval, World.setCell]; done)) (kc_mkM _ _ _ (0, false, 0)) (fun _ h => h.elim) (fun _ _ => trivial) HA.out.row (Below.refl _ _) HBS.out (by have := HU2.out; omega) ?_; intro v1 w3 hR9 hB9 hg9 hs9; obtain ⟨gc, c2, rfl, hc2, hne, hblk, e0, e1, e2, hff, h3, h4, h5⟩ := HA.out.grew (by decide) hR9 hg9 hs9 (st.used + 1) x; have HNE := Aside0.mk (fun e : g = gc => hne e.symm); have HBLK := Aside0.mk hblk; have H3 := Aside0.mk h3; have H4 := Aside0.mk h4; have H5 := Aside0.mk h5; have HFF := Aside0.mk hff; clear hR9 hB9 hg9 hs9 h3 h4 h5 hff hblk; have b0 := (blk_cell HBLK.out 0).trans rfl; have b1 := (blk_cell HBLK.out 1).trans rfl; have b2 := (blk_cell HBLK.out 2).trans rfl; have f0 := blk_frozen HBLK.out 0; have f1 := blk_frozen HBLK.out 1; have f2 := blk_frozen HBLK.out 2; have hf0 := HFF.out 0; rw [Nat.add_zero] at hf0; have hf1 := HFF.out 1; have hf2 := HFF.out 2; have HR2 := Aside0.mk (HA.out.rowOf H4.out HR.out (by simp [Kd.int, Kd.scalar]) (by simp [Kd.int, Kd.scalar])))
          | ((with_reducible refine gate_builtin (b := .append) (xs := #[.tmp 73, .tmp 75]) rfl ?_); at_builtin; refine Kd.R_append (Kd.int .i64) (w0 := _) w.heap.size rfl (.tmp 73) (.tmp 75) 40 3 (.int .i64 0) 8 rfl Try.underlying40 info3 rfl (by decide) (by decide) _ pre ((st.cells.length : Int) + 1) [.int .i64 ((st.cells.length : Int) + 1)] (fun _ => True) (fun _ => False) rfl (by first | rfl | (simp [Act.eval, World.setCell]; done)) rfl (fun _ h => h.elim) (fun _ _ => trivial) HR2.out (Below.refl _ _) (Nat.le_trans HO.out.size H4.out.size) (by have := HPM.out; omega) ?_; intro v1 w4 hR9 hB9 hg9 hs9; have HR9 := Aside0.mk hR9; have HG9 := Aside0.mk hg9; clear hR9 hB9 hg9 hs9))
        go_roundw
        case rel =>
          refine ⟨k + 1, by simp, by omega, ⟨_, _, pre ++ [(st.cells.length : Int) + 1], _, (by rw [HM2.out]; exact HQ.out), (by rw [HL.out]; simp), (by rw [HM2.out, List.length_append, List.length_singleton]; have := HPM.out; omega), H3.out.grownR HR2.out (by decide) (by decide) HG9.out, (HO.out.trans HS.out H4.out).own HG9.out HRB.out, HS.out.trans (H5.out.mono HO.out.size), HR9.out⟩⟩
        case measure => simp [intOf]; omega
    · obtain rfl : k = n := by omega
      rw [Nat.sub_self] at HK
      obtain ⟨st, v', pre, rest, hmany, hl, hpm, hA, hO, hS, hR⟩ := HK.out
      simp only [many, Option.some.injEq, Prod.mk.injEq] at hmany
      obtain ⟨rfl, rfl⟩ := hmany
      rw [List.append_nil] at hl
      subst hl
      obtain ⟨A, c, rfl⟩ := R_slice hR
      obtain ⟨_, hlc, hC⟩ := R_reads' hR
      have hll : l.length < 1000000000 := by omega
      have HC := Aside0.mk hC
      have HA := Aside0.mk hA
      have HO := Aside0.mk hO
      have HS := Aside0.mk hS
      clear hC hA hO hS hR HK hlt
      go_wp2_with (go_at_call 91; refine (clip_int _ A l.length c hlc hll).mono ?_; rintro e w2 ⟨rfl, rfl⟩)
      go_ret2
      exact ⟨A, rfl, HC.out, ⟨_, HA.out, HO.out, HS.out⟩⟩
end Go.Proofs.Ytpfikmchimlneaa.Ar
