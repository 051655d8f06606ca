/- tight -/ -- written by wip/myprint.py
import Derived.Test.YtnklnjghecmihaaL1x0
import Derived.Test.YtnklnjghecmihaaL1x31
import Derived.Test.YtnklnjghecmihaaL1x55
namespace Go.Proofs.Ytnklnjghecmihaa.L1
open Go.RowKit Go.Proofs.YtnklnjghecmihaaW PrintWords PrintLast PrintMore Mine
attribute [local go_sem] max2_int min2_int max_two min_two max_three min_three max_four min_four max2_str min2_str binOp_gtr_str binOp_leq_str binOp_geq_str
set_option linter.unusedVariables false
set_option linter.unusedSimpArgs false

/-! ### buffer_Within: function 56 -/
open Go.Proofs.YtnklnjghecmihaaW.Sl
/-- has a range what a message touches -/
def buffer_Within.inn (k : Nat) (m : S46) (r0 r1 : ByteArray) : Option Bool := (msg_Span.f m.f0 m.f1 m.f2 m.f3 m.f4 m.f5).bind fun s => key_Within.f k s.1 s.2 r0 r1
/-- the first message that does not lie in a range; -1 -/
def buffer_Within.ix (k : Nat) (r0 r1 : ByteArray) : List S46 → Nat → Option Int
 | [], _ => some (-1)
 | m :: l, j => (buffer_Within.inn k m r0 r1).bind fun t => if t = true then buffer_Within.ix k r0 r1 l (j + 1) else some (j : Int)
def buffer_Within.f (k : Nat) (l : List S46) (r0 r1 : ByteArray) : Option Bool := (buffer_Within.ix k r0 r1 l 0).bind fun v => some (!(decide (0 ≤ v)))
theorem buffer_Within.mono_ix (k : Nat) (r0 r1 : ByteArray) : ∀ (l : List S46) (j : Nat), LeO (buffer_Within.ix k r0 r1 l j) (buffer_Within.ix (k + 1) r0 r1 l j)
 | [], _ => LeO.refl _
 | m :: l, j => LeO.bind (LeO.bind (LeO.refl _) (fun _ => key_Within.mono _ _ _ _ _)) (fun _ => LeO.ite (buffer_Within.mono_ix k r0 r1 l (j + 1)) (LeO.refl _))
theorem buffer_Within.mono : ∀ a0 a1 a2 k, LeO (buffer_Within.f k a0 a1 a2) (buffer_Within.f (k + 1) a0 a1 a2) := fun a0 a1 a2 k => LeO.bind (buffer_Within.mono_ix k a1 a2 a0 0) (fun _ => LeO.refl _)
def buffer_Within.Box2 (W : World) (B : Nat) (r0 r1 : ByteArray) : Prop := W.cell? ⟨B, 0, none⟩ = some (.string r0) ∧ W.cell? ⟨B, 1, none⟩ = some (.string r1) ∧ B < W.heap.size
theorem buffer_Within.Box2.below {W W' : World} {B : Nat} {r0 r1 : ByteArray} (h : buffer_Within.Box2 W B r0 r1) (hb : Below W.heap.size W W') : buffer_Within.Box2 W' B r0 r1 :=
 ⟨(hb.cell (p := ⟨B, 0, none⟩) h.2.2).trans h.1, (hb.cell (p := ⟨B, 1, none⟩) h.2.2).trans h.2.1, Nat.lt_of_lt_of_le h.2.2 hb.size⟩
theorem buffer_Within.held {W W' : World} (hb : Below W.heap.size W W') (b o : Nat) (h : b < W.heap.size) : W'.cell? ⟨b, o, none⟩ = W.cell? ⟨b, o, none⟩ := hb.cell (p := ⟨b, o, none⟩) h
set_option maxHeartbeats 8000000 in
set_option maxRecDepth 100000 in
theorem buffer_Within.lit (k : Nat) (a0 a1 : Int) (a2 a3 a4 : ByteArray) (a5 : Int) (r0 r1 : ByteArray) (B : Nat) (t : Bool) (w : World) (hB : buffer_Within.Box2 w B r0 r1) (h : buffer_Within.inn k ⟨a0, a1, a2, a3, a4, a5⟩ r0 r1 = some t) :
  Calls Try.prog 111 #[.agg #[.int .u8 a0, .int .i64 a1, .string a2, .string a3, .string a4, .int .u64 a5], .pointer (some ⟨B, 0, none⟩)] w fun e w' => e = .returned (.bool (!t)) ∧ Below w.heap.size w w' := by
 obtain ⟨⟨s0, s1⟩, hs, ht⟩ := Option.bind_eq_some_iff.1 h
 have HS := Aside0.mk hs
 have HT := Aside0.mk ht
 have hw := hB.below ((Below.refl _ w).alloc (Nat.le_refl _) (.cells #[.int .u8 a0, .int .i64 a1, .string a2, .string a3, .string a4, .int .u64 a5] 46))
 have b0 := hw.1
 have b1 := hw.2.1
 have hlt := hB.2.2
 have hl2 : B < (w.alloc (.cells #[.int .u8 a0, .int .i64 a1, .string a2, .string a3, .string a4, .int .u64 a5] 46)).heap.size := hw.2.2
 have HB0 := Aside0.mk ((Below.refl w.heap.size w).alloc (Nat.le_refl _) (.cells #[.int .u8 a0, .int .i64 a1, .string a2, .string a3, .string a4, .int .u64 a5] 46))
 clear h hs ht hw hB
 go_enter Try.func111, Try.ntmps111
 go_wp2_with fail
 go_region_held3 (fun w' => w'.cell? ⟨w.heap.size, 0, none⟩ = some (.int .u8 a0) ∧ w'.cell? ⟨w.heap.size, 1, none⟩ = some (.int .i64 a1) ∧ w'.cell? ⟨w.heap.size, 2, none⟩ = some (.string a2) ∧ w'.cell? ⟨w.heap.size, 3, none⟩ = some (.string a3) ∧ w'.cell? ⟨w.heap.size, 4, none⟩ = some (.string a4) ∧ w'.cell? ⟨w.heap.size, 5, none⟩ = some (.int .u64 a5) ∧ w'.cell? ⟨B, 0, none⟩ = some (.string r0) ∧ w'.cell? ⟨B, 1, none⟩ = some (.string r1))
  ((first | go_keep | (refine ⟨?_, ?_, ?_, ?_, ?_, ?_, ?_, ?_⟩ <;> (try dsimp only) <;> first | go_keep | (rw [buffer_Within.held hb2 _ _ (by have := hb1.size; simp at this ⊢; omega)]; go_simp) | (rw [buffer_Within.held hb1 _ _ (by simp <;> omega)]; go_simp))))
  ((first
   | (go_at_call 99; refine (msg_Span.calls a0 a1 a2 a3 a4 a5 s0 s1 _ HS.out).mono ?_; rintro e w1 ⟨rfl, hb1⟩)
   | (go_at_call 112; refine (key_Within.calls k s0 s1 r0 r1 t _ HT.out).mono ?_; rintro e w2 ⟨rfl, hb2⟩)))
 go_wp2
 go_ret
 exact ⟨rfl, (HB0.out.drew.trans (hb1.mono HB0.out.size)).trans (hb2.mono (Nat.le_trans HB0.out.size hb1.size))⟩
theorem buffer_Within.drop {l : List S46} {j : Nat} (h : j < l.length) : l.drop j = rd_T46 l (j : Int) :: l.drop (j + 1) := by
 rw [List.drop_eq_getElem_cons h]
 congr 1
 unfold rd_T46
 simp [List.getD_eq_getElem?_getD, List.getElem?_eq_getElem h]
set_option maxHeartbeats 8000000 in
set_option maxRecDepth 100000 in
theorem buffer_Within.index (k : Nat) (A0 : Option Addr) (c0 : Nat) (l0 : List S46) (r0 r1 : ByteArray) (B : Nat) (v : Int) (w : World) (hr0 : Kd.C k46 w A0 l0.length l0) (hB : buffer_Within.Box2 w B r0 r1) (h : buffer_Within.ix k r0 r1 l0 0 = some v) :
  Calls Try.prog 146 #[.slice A0 l0.length c0, .func (.func 111) #[] #[.pointer (some ⟨B, 0, none⟩)]] w fun e w' => e = .returned (.int .i64 v) ∧ Below w.heap.size w w' := by
 have hn0 : l0.length ≤ 9223372036854775807 := hr0.2.1
 have HR0 := Aside0.mk hr0
 have HBX := Aside0.mk hB
 have HIX : Aside0 (buffer_Within.ix k r0 r1 (l0.drop 0) 0 = some v) := ⟨h⟩
 clear hr0 hB h
 go_enter Try.func146, Try.ntmps146
 go_wp2
 go_loopw [5, 8] (fun _ i wr => ∃ j : Nat, j ≤ l0.length ∧ i = .int .i64 (j : Int) ∧ Aside0 (buffer_Within.ix k r0 r1 (l0.drop j) j = some v) ∧ Aside0 (Below w.heap.size w wr)) (fun _ i _ => l0.length - (intOf i).toNat)
 case atStart => exact ⟨0, Nat.zero_le _, rfl, HIX, ⟨Below.refl _ _⟩⟩
 case round =>
  obtain ⟨j, hj, rfl, HI, HB⟩ := hrel
  by_cases hlt : j < l0.length
  ·obtain ⟨ad, rfl, q0, q1, q2, q3, q4, q5⟩ := at_T46 (Kd.C_below HR0.out HB.out) (j : Int) (by omega) (by omega)
   rw [Int.toNat_natCast] at q0 q1 q2 q3 q4 q5
   have hi := HI.out
   rw [buffer_Within.drop hlt, buffer_Within.ix] at hi
   obtain ⟨t, ht, hi⟩ := Option.bind_eq_some_iff.1 hi
   have HT := Aside0.mk ht
   have HI2 := Aside0.mk hi
   clear ht hi HI
   generalize rd_T46 l0 (j : Int) = m at *
   go_wp2_with (go_at_call 111; refine (buffer_Within.lit k m.f0 m.f1 m.f2 m.f3 m.f4 m.f5 r0 r1 B t _ (HBX.out.below (HB.out.mono (by omega))) HT.out).mono ?_; rintro e w1 ⟨rfl, hb⟩)
   ·obtain rfl : t = false := by simpa using (show (!t) = true by assumption)
    obtain rfl : (j : Int) = v := by simpa using HI2.out
    go_ret
    exact ⟨rfl, HB.out.trans (hb.mono HB.out.size)⟩
   ·obtain rfl : t = true := by simpa using (show (!t) = false by assumption)
    have hi := HI2.out
    rw [if_pos rfl] at hi
    refine ⟨⟨j + 1, by omega, by go_num, ⟨hi⟩, ⟨HB.out.trans (hb.mono HB.out.size)⟩⟩, ?_⟩
    simp [intOf]
    omega
  ·obtain rfl : j = l0.length := by omega
   have hi := HI.out
   rw [List.drop_length, buffer_Within.ix] at hi
   obtain rfl := Option.some.inj hi
   clear hi HI
   go_wp2
   go_ret
   exact ⟨rfl, HB.out⟩
set_option maxHeartbeats 8000000 in
set_option maxRecDepth 100000 in
theorem buffer_Within.contains (k : Nat) (A0 : Option Addr) (c0 : Nat) (l0 : List S46) (r0 r1 : ByteArray) (B : Nat) (v : Int) (w : World) (hr0 : Kd.C k46 w A0 l0.length l0) (hB : buffer_Within.Box2 w B r0 r1) (h : buffer_Within.ix k r0 r1 l0 0 = some v) :
  Calls Try.prog 110 #[.slice A0 l0.length c0, .func (.func 111) #[] #[.pointer (some ⟨B, 0, none⟩)]] w fun e w' => e = .returned (.bool (decide (0 ≤ v))) ∧ Below w.heap.size w w' := by
 have HC := Aside0.mk (buffer_Within.index k A0 c0 l0 r0 r1 B v w hr0 hB h)
 clear hr0 hB h
 go_enter Try.func110, Try.ntmps110
 go_wp2_with (go_at_call 146; refine HC.out.mono ?_; rintro e w1 ⟨rfl, hb⟩)
 go_ret
 exact ⟨rfl, hb⟩
set_option maxHeartbeats 8000000 in
set_option maxRecDepth 100000 in
theorem buffer_Within.calls (k : Nat) (A0 : Option Addr) (c0 : Nat) (l0 : List S46) (a1_0 a1_1 : ByteArray) (r : Bool) (w : World) (hr0 : Kd.C k46 w A0 l0.length l0) (hc0 : l0.length ≤ c0) (h : buffer_Within.f k l0 a1_0 a1_1 = some r) :
  Calls Try.prog 56 #[.slice A0 l0.length c0, .agg #[.string a1_0, .string a1_1]] w fun e w' => e = .returned (.bool r) ∧ Below w.heap.size w w' := by
 obtain ⟨v, hv, h⟩ := Option.bind_eq_some_iff.1 h
 obtain rfl := Option.some.inj h
 have hA := (Below.refl w.heap.size w).alloc (Nat.le_refl _) (.cells #[.string a1_0, .string a1_1] 48)
 have hbox : buffer_Within.Box2 (w.alloc (.cells #[.string a1_0, .string a1_1] 48)) w.heap.size a1_0 a1_1 := by
  have hh := heap_alloc_new w (.cells #[.string a1_0, .string a1_1] 48)
  refine ⟨?_, ?_, by simp⟩
  ·simp only [World.cell?, hh]; rfl
  ·simp only [World.cell?, hh]; rfl
 have HC := Aside0.mk (buffer_Within.contains k A0 c0 l0 a1_0 a1_1 w.heap.size v _ (Kd.C_below hr0 hA) hbox hv)
 have HA := Aside0.mk hA
 clear hr0 hbox hv h hA
 go_enter Try.func56, Try.ntmps56
 go_wp2_with (go_at_call 110; refine HC.out.mono ?_; rintro e w1 ⟨rfl, hb⟩)
 go_ret
 exact ⟨by simp, HA.out.trans (hb.mono HA.out.size)⟩

end Go.Proofs.Ytnklnjghecmihaa.L1
