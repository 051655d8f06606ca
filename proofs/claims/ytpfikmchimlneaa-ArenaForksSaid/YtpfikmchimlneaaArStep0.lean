/- What step calls: Take, Many on both sides, told as one; numbers. -/
import Derived.Test.YtpfikmchimlneaaArM2
import Derived.Deep.QuietTactic
import Derived.BigQuiet
set_option linter.unusedVariables false
set_option linter.unusedSimpArgs false
namespace Go.Proofs.Ytpfikmchimlneaa.Ar
open Go.Proofs.YtpfikmchimlneaaW.Mine Go.RowKit Go.Proofs.YtpfikmchimlneaaW.PrintWords Go.Proofs.YtpfikmchimlneaaW.PrintWords.Kd Go.Proofs.YtpfikmchimlneaaW.PrintLast Go.Proofs.YtpfikmchimlneaaW.PrintMore Go.Proofs.YtpfikmchimlneaaW.Sl Go.Proofs.YtpfikmchimlneaaW.Ar
variable {B g : Nat} {W W' : World} {X : Array Value} {r : Rf} {v : Value} {s : St Int}
/-- the arena's row does what is told -/
def aTake (s : St Int) (x : Int) : Option (St Int × Int × Int) := if s.used = s.most then some (s, 0, 9) else (take1 s x).map fun p => (p.1, p.2, 0)
def aMany (s : St Int) (n x : Int) : Option (St Int × List Int × Int) := if n < 0 then some (s, [], 2) else if s.most - s.used < n then some (s, [], 9) else (many n.toNat s x).map fun p => (p.1, p.2, 0)
def rManyF (r : Rf) (n x : Int) : Option (Rf × List Int × Int) := if n < 0 then some (r, [], 2) else if r.most - (rlen r : Int) < n then some (r, [], 9) else (rmany n.toNat r x).map fun p => (p.1, p.2, 0)
theorem does_below {w w' : World} (h : AI B w g v s) (hb : Below w.heap.size w w') : Does B w g v s w' := ⟨v, h.keep hb, .of_below hb, .refl _ _⟩
theorem take_any (w : World) (h : AI B w g v s) (hb : Bd s) (x i c : Int) (s' : St Int) (ht : aTake s x = some (s', i, c)) :
    Calls Try.prog 24 #[.pointer (some ⟨g, 0, none⟩), .int .i64 x] w fun e w' => e = .returned (.tuple #[.int .i64 i, .int .i64 c]) ∧ Does B w g v s' w' := by
  unfold aTake at ht
  by_cases h1 : s.used = s.most
  · rw [if_pos h1] at ht
    simp only [Option.some.injEq, Prod.mk.injEq] at ht
    obtain ⟨rfl, rfl, rfl⟩ := ht
    exact (take_full_int w h x hb.u0 h1 hb.m).mono (fun e w' ⟨he, hbl⟩ => ⟨he, does_below h hbl⟩)
  · rw [if_neg h1] at ht
    obtain ⟨⟨s2, i2⟩, hq, he⟩ := Option.map_eq_some_iff.1 ht
    simp only [Prod.mk.injEq] at he
    obtain ⟨rfl, rfl, rfl⟩ := he
    exact take_int w h x i2 s2 hq hb.u0 (by have := hb.u1; omega) hb.m
def manyAny (B : Nat) (w : World) (g : Nat) (v : Value) (s' : St Int) (l : List Int) (c : Int) (e : Ending) (w' : World) : Prop :=
  ∃ A c', e = .returned (.tuple #[.slice A l.length c', .int .i64 c]) ∧ (Kd.int .i64).C w' A l.length l ∧ Does B w g v s' w'
theorem many_any (w : World) (h : AI B w g v s) (hb : Bd s) (n x c : Int) (s' : St Int) (l : List Int) (ht : aMany s n x = some (s', l, c)) :
    Calls Try.prog 57 #[.pointer (some ⟨g, 0, none⟩), .int .i64 n, .int .i64 x] w (manyAny B w g v s' l c) := by
  unfold aMany at ht
  by_cases h1 : n < 0
  · rw [if_pos h1] at ht
    simp only [Option.some.injEq, Prod.mk.injEq] at ht
    obtain ⟨rfl, rfl, rfl⟩ := ht
    exact (many_neg_int w n x h1).mono (fun e w' ⟨he, hbl⟩ => ⟨none, 0, he, ⟨rfl, Nat.zero_le _, fun h => absurd h (by simp)⟩, does_below h hbl⟩)
  · rw [if_neg h1] at ht
    by_cases h2 : s.most - s.used < n
    · rw [if_pos h2] at ht
      simp only [Option.some.injEq, Prod.mk.injEq] at ht
      obtain ⟨rfl, rfl, rfl⟩ := ht
      exact (many_full_int w h n x hb.u0 hb.u1 hb.m h2).mono (fun e w' ⟨he, hbl⟩ => ⟨none, 0, he, ⟨rfl, Nat.zero_le _, fun h => absurd h (by simp)⟩, does_below h hbl⟩)
    · rw [if_neg h2] at ht
      obtain ⟨⟨s2, l2⟩, hq, he⟩ := Option.map_eq_some_iff.1 ht
      simp only [Prod.mk.injEq] at he
      obtain ⟨rfl, rfl, rfl⟩ := he
      obtain ⟨k, rfl⟩ := Int.eq_ofNat_of_zero_le (show 0 ≤ n by omega)
      exact (many_int w h k x s2 l2 hq hb.u0 hb.u1 hb.m (by omega)).mono (fun e w' ⟨A, he, hC, hD⟩ => ⟨A, _, he, hC, hD⟩)
theorem ref_many (w : World) (h : RV B w X r) (hBw : B ≤ w.heap.size) (n x c : Int) (r' : Rf) (l : List Int) (hm0 : 0 ≤ r.most) (hm1 : r.most < 5000) (hle : (rlen r : Int) ≤ r.most) (ht : rManyF r n x = some (r', l, c)) :
    Calls Try.prog 58 #[.agg X, .int .i64 n, .int .i64 x] w (toldM B w r' l c) := by
  unfold rManyF at ht
  by_cases h1 : n < 0
  · rw [if_pos h1] at ht
    simp only [Option.some.injEq, Prod.mk.injEq] at ht
    obtain ⟨rfl, rfl, rfl⟩ := ht
    exact ref_many_neg w h n x h1
  · rw [if_neg h1] at ht
    by_cases h2 : r.most - (rlen r : Int) < n
    · rw [if_pos h2] at ht
      simp only [Option.some.injEq, Prod.mk.injEq] at ht
      obtain ⟨rfl, rfl, rfl⟩ := ht
      exact ref_many_full w h n x (by omega) _ rfl (by omega) (by omega) h2
    · rw [if_neg h2] at ht
      obtain ⟨⟨s2, l2⟩, hq, he⟩ := Option.map_eq_some_iff.1 ht
      simp only [Prod.mk.injEq] at he
      obtain ⟨rfl, rfl, rfl⟩ := he
      obtain ⟨k, rfl⟩ := Int.eq_ofNat_of_zero_le (show 0 ≤ n by omega)
      exact ref_many_ok w h hBw k x _ rfl (by omega) (by omega) (by omega) s2 l2 hq
set_option maxHeartbeats 8000000 in
set_option maxRecDepth 100000 in
theorem numbers_calls (w : World) (A1 A2 : Option Addr) (c1 c2 : Nat) (l : List Int) (h1 : (Kd.int .i64).C w A1 l.length l) (h2 : (Kd.int .i64).C w A2 l.length l) (hl : l.length < 1000000) :
    Calls Try.prog 59 #[.slice A1 l.length c1, .slice A2 l.length c2] w fun e w' => e = .returned (.bool true) ∧ Below w.heap.size w w' := by
  have H1 := Aside0.mk h1
  have H2 := Aside0.mk h2
  obtain ⟨n, hn⟩ : ∃ n, l.length = n := ⟨_, rfl⟩
  rw [hn] at hl H1 H2 ⊢
  clear h1 h2 hn
  go_enter Try.func59, Try.ntmps59
  go_wp2_with fail
  have HB := Aside0.mk (Below.refl w.heap.size w)
  go_loopw [5] (fun i wr => ∃ k : Nat, i = .int .i64 (k : Int) ∧ k ≤ n ∧ Aside0 (Below w.heap.size w wr)) (fun i _ => n - (intOf i).toNat)
  case atStart => exact ⟨0, rfl, Nat.zero_le _, HB⟩
  case round =>
    obtain ⟨k, rfl, hk, HW⟩ := hrel
    clear HB
    by_cases hlt : k < n
    · obtain ⟨a1, rfl, e1⟩ := at_int (Kd.C_below H1.out HW.out) (k : Int) (by omega) (by omega)
      obtain ⟨a2, rfl, e2⟩ := at_int (Kd.C_below H2.out HW.out) (k : Int) (by omega) (by omega)
      rw [Int.toNat_natCast] at e1 e2
      generalize rd l (k : Int) = x at *
      go_wp2
      go_quiet (fail)
      go_wp2
      go_roundw
      case rel => exact ⟨k + 1, by simp, by omega, ⟨pw_below_drewN HW.out _⟩⟩
      case measure => simp [intOf]; omega
    · obtain rfl : k = n := by omega
      clear hlt
      go_wp2
      go_ret
      exact ⟨rfl, HW.out⟩
end Go.Proofs.Ytpfikmchimlneaa.Ar
