/- The arena's methods, for whoever holds an arena; and what the laws of chapter 08 ask first. -/
import Derived.Test.YtpfikmchimlneaaArT
set_option linter.unusedVariables false
set_option linter.unusedSimpArgs false
namespace Go.Proofs.Ytpfikmchimlneaa.Ar
open Go.RowKit Go.Proofs.YtpfikmchimlneaaW.PrintWords Go.Proofs.YtpfikmchimlneaaW.PrintWords.Kd Go.Proofs.YtpfikmchimlneaaW.PrintLast Go.Proofs.YtpfikmchimlneaaW.PrintMore Go.Proofs.YtpfikmchimlneaaW.Sl Go.Proofs.YtpfikmchimlneaaW.Ar
variable {B g : Nat} {v : Value} {s : St Int} {W : World} {K : St Int → World → Prop}
/-- an arena is held; what its holder says of it when it is another one -/
structure Held (B g : Nat) (s : St Int) (W : World) (K : St Int → World → Prop) : Prop where mk ::
  out : ∃ v, AI B W g v s ∧ (∀ s' W', Does B W g v s' W' → K s' W') ∧ (∀ W', Below W.heap.size W W' → K s W')
structure Bd (s : St Int) : Prop where
  u0 : 0 ≤ s.used
  u1 : s.used ≤ s.most
  m : s.most < 1000000
  c : s.cells.length < 1000000
theorem take_h (h : Held B g s W K) (hb : Bd s) (x i : Int) (s' : St Int) (hm : take1 s x = some (s', i)) (h1 : s.used < s.most) :
    Calls Try.prog 24 #[.pointer (some ⟨g, 0, none⟩), .int .i64 x] W fun e W' => e = .returned (.tuple #[.int .i64 i, .int .i64 0]) ∧ K s' W' := by
  obtain ⟨v, hA, hk, _⟩ := h.out
  exact (take_int W hA x i s' hm hb.u0 h1 hb.m).mono (fun e W' ⟨he, hd⟩ => ⟨he, hk _ _ hd⟩)
theorem take_full_h (h : Held B g s W K) (hb : Bd s) (x : Int) (h1 : s.used = s.most) :
    Calls Try.prog 24 #[.pointer (some ⟨g, 0, none⟩), .int .i64 x] W fun e W' => e = .returned (.tuple #[.int .i64 0, .int .i64 9]) ∧ K s W' := by
  obtain ⟨v, hA, _, hk⟩ := h.out
  exact (take_full_int W hA x hb.u0 h1 hb.m).mono (fun e W' ⟨he, hd⟩ => ⟨he, hk _ hd⟩)
theorem give_h (h : Held B g s W K) (hb : Bd s) (i : Int) (hi : s.has i = true) (hu : 0 < s.used) :
    Calls Try.prog 54 #[.pointer (some ⟨g, 0, none⟩), .int .i64 i] W fun e W' => e = .returned (.int .i64 0) ∧ K (give s i) W' := by
  obtain ⟨v, hA, hk, _⟩ := h.out
  exact (give_yes_int W hA i hi hb.c hu (by have := hb.u1; have := hb.m; omega)).mono (fun e W' ⟨he, hd⟩ => ⟨he, hk _ _ hd⟩)
theorem give_no_h (h : Held B g s W K) (hb : Bd s) (i : Int) (hi : s.has i = false) :
    Calls Try.prog 54 #[.pointer (some ⟨g, 0, none⟩), .int .i64 i] W fun e W' => e = .returned (.int .i64 14) ∧ K s W' := by
  obtain ⟨v, hA, _, hk⟩ := h.out
  exact (give_no_int W hA i hi hb.c).mono (fun e W' ⟨he, hd⟩ => ⟨he, hk _ (hd ▸ Below.refl _ _)⟩)
theorem set_h (h : Held B g s W K) (hb : Bd s) (i x : Int) (hi : s.has i = true) :
    Calls Try.prog 62 #[.pointer (some ⟨g, 0, none⟩), .int .i64 i, .int .i64 x] W fun e W' => e = .returned (.int .i64 0) ∧ K (setv s i x) W' := by
  obtain ⟨v, hA, hk, _⟩ := h.out
  exact (set_yes_int W hA i x hi hb.c).mono (fun e W' ⟨he, hd⟩ => ⟨he, hk _ _ hd⟩)
theorem set_no_h (h : Held B g s W K) (hb : Bd s) (i x : Int) (hi : s.has i = false) :
    Calls Try.prog 62 #[.pointer (some ⟨g, 0, none⟩), .int .i64 i, .int .i64 x] W fun e W' => e = .returned (.int .i64 14) ∧ K s W' := by
  obtain ⟨v, hA, _, hk⟩ := h.out
  exact (set_no_int W hA i x hi hb.c).mono (fun e W' ⟨he, hd⟩ => ⟨he, hk _ (hd ▸ Below.refl _ _)⟩)
theorem get_h (h : Held B g s W K) (hb : Bd s) (i : Int) :
    Calls Try.prog 55 #[.pointer (some ⟨g, 0, none⟩), .int .i64 i] W fun e W' => e = .returned (.tuple #[.int .i64 (get s i).1, .bool (get s i).2]) ∧ W = W' := by
  obtain ⟨v, hA, _, hk⟩ := h.out
  exact get_int W hA i hb.c
theorem len_h (h : Held B g s W K) : Calls Try.prog 25 #[.pointer (some ⟨g, 0, none⟩)] W fun e W' => e = .returned (.int .i64 s.used) ∧ W = W' := by
  obtain ⟨v, hA, _, hk⟩ := h.out
  exact len_int W hA
theorem top_h (h : Held B g s W K) : Calls Try.prog 65 #[.pointer (some ⟨g, 0, none⟩)] W fun e W' => e = .returned (.int .i64 (s.cells.length : Int)) ∧ W = W' := by
  obtain ⟨v, hA, _, hk⟩ := h.out
  exact top_int W hA
theorem left_h (h : Held B g s W K) (hb : Bd s) : Calls Try.prog 19 #[.pointer (some ⟨g, 0, none⟩)] W fun e W' => e = .returned (.int .i64 (s.most - s.used)) ∧ K s W' := by
  obtain ⟨v, hA, _, hk⟩ := h.out
  exact (left_int W hA hb.u0 hb.u1 hb.m).mono (fun e W' ⟨he, hd⟩ => ⟨he, hk _ hd⟩)
/-- one arena that was made since w0 -/
structure Has (B : Nat) (w0 : World) (g : Nat) (s : St Int) (W : World) : Prop where mk ::
  out : ∃ v, AI B W g v s ∧ Below B w0 W ∧ B ≤ w0.heap.size
theorem Has.below {w0 : World} (h : Has B w0 g s W) : Below B w0 W := by obtain ⟨_, _, h, _⟩ := h.out; exact h
theorem Has.keep {w0 W' : World} (h : Has B w0 g s W) (hb : Below W.heap.size W W') : Has B w0 g s W' := by
  obtain ⟨v, hA, h1, h2⟩ := h.out
  exact ⟨v, hA.keep hb, h1.trans (hb.mono (Nat.le_trans h2 h1.size)), h2⟩
theorem Has.held {w0 : World} (h : Has B w0 g s W) : Held B g s W (fun s' W' => Has B w0 g s' W') := by
  obtain ⟨v, hA, h1, h2⟩ := h.out
  refine ⟨v, hA, fun s' W' hd => ?_, fun W' hb => h.keep hb⟩
  obtain ⟨v', h3, h4, h5⟩ := hd.out
  exact ⟨v', h3, h1.trans (hA.below h4 (Nat.le_refl _) (Nat.le_trans h2 h1.size)), h2⟩
theorem Has.new (w0 : World) (hb : Below B w0 W) (h2 : B ≤ w0.heap.size) (most : Int) : Has B w0 W.heap.size ⟨[], 0, 0, most⟩ (W.alloc (.cells #[.slice none 0 0, .int .i64 0, .int .i64 0, .int .i64 most] 110)) :=
  ⟨_, at_new W B (Nat.le_trans h2 hb.size) most, hb.alloc (Nat.le_trans h2 hb.size) _, h2⟩
def live1 : St Int := ⟨[(5, true, 0)], 0, 1, 2⟩
def live2 : St Int := ⟨[(5, true, 0), (6, true, 0)], 0, 2, 2⟩
def live3 : St Int := ⟨[(0, false, 0), (6, true, 0)], 1, 1, 2⟩
def live4 : St Int := ⟨[(8, true, 0), (6, true, 0)], 0, 2, 2⟩
set_option maxHeartbeats 4000000 in
set_option maxRecDepth 100000 in
theorem live_calls (w : World) : Calls Try.prog 16 #[] w fun e w' => e = .returned (.bool true) ∧ Below w.heap.size w w' := by
  have H0 := Has.new w (Below.refl w.heap.size w) (Nat.le_refl _) 2
  go_enter Try.func16, Try.ntmps16
  go_wp2_with fail
  go_at_call 18
  refine (new_int w 2 (by decide) (by decide)).mono ?_
  rintro e w1 ⟨rfl, rfl⟩
  go_wp2_with fail
  go_at_call 24
  refine (take_h H0.held ⟨by decide, by decide, by decide, by decide⟩ 5 1 live1 rfl (by decide)).mono ?_
  rintro e w1 ⟨rfl, H1⟩
  clear H0
  go_wp2_with fail
  go_at_call 24
  refine (take_h H1.held ⟨by decide, by decide, by decide, by decide⟩ 6 2 live2 rfl (by decide)).mono ?_
  rintro e w2 ⟨rfl, H2⟩
  clear H1
  go_wp2_with fail
  go_at_call 24
  refine (take_full_h H2.held ⟨by decide, by decide, by decide, by decide⟩ 7 (by decide)).mono ?_
  rintro e w3 ⟨rfl, H3⟩
  clear H2
  go_wp2_with fail
  go_at_call 54
  refine (give_h H3.held ⟨by decide, by decide, by decide, by decide⟩ 1 rfl (by decide)).mono ?_
  rintro e w4 ⟨rfl, H4⟩
  clear H3
  go_wp2_with fail
  go_at_call 24
  refine (take_h H4.held ⟨by decide, by decide, by decide, by decide⟩ 8 1 live4 rfl (by decide)).mono ?_
  rintro e w5 ⟨rfl, H5⟩
  clear H4
  have H5 := Aside0.mk H5
  go_wp2_with (first
    | (go_at_call 55; refine (get_h H5.out.held ⟨by decide, by decide, by decide, by decide⟩ 1).mono ?_; rintro e w6 ⟨rfl, rfl⟩)
    | (go_at_call 25; refine (len_h H5.out.held).mono ?_; rintro e w6 ⟨rfl, rfl⟩)
    | (go_at_call 19; refine (left_h H5.out.held ⟨by decide, by decide, by decide, by decide⟩).mono ?_; rintro e w6 ⟨rfl, H6⟩; have H6 := Aside0.mk H6))
  go_ret
  exact ⟨rfl, H6.out.below⟩
end Go.Proofs.Ytpfikmchimlneaa.Ar
