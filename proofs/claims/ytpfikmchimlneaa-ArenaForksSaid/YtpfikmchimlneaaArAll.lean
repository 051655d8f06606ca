/- All: what it tells, one by one. -/
import Derived.Test.YtpfikmchimlneaaArPlayed
import Derived.RangeFuncNested
import Derived.RangeFuncBound
import Derived.RangeFuncBox
import Derived.RangeFuncCalls
import Derived.RangeFuncLeaves
import Derived.Shelf.Abstract
import Derived.Shelf.RegionOpen
import Derived.WalkKit
import Derived.OwnWalkIn
import Derived.TacticsInMore
import Derived.LoopNIn
import Derived.LoopIn
set_option linter.unusedVariables false
set_option linter.unusedSimpArgs false
namespace Go.Proofs.Ytpfikmchimlneaa.Ar
open Go.Shelf Go.Proofs.YtpfikmchimlneaaW.Mine Go.RowKit Go.Proofs.YtpfikmchimlneaaW.PrintWords Go.Proofs.YtpfikmchimlneaaW.PrintWords.Kd Go.Proofs.YtpfikmchimlneaaW.PrintLast Go.Proofs.YtpfikmchimlneaaW.PrintMore Go.Proofs.YtpfikmchimlneaaW.Sl Go.Proofs.YtpfikmchimlneaaW.Ar
attribute [local go_sem] Oper.semAt_some
variable {B g : Nat} {w W V W' : World} {v v' : Value} {s s' : St Int}
/-- the first k places' takings -/
def seqOf (s : St Int) : Nat → List (Int × Int)
  | 0 => []
  | k + 1 => seqOf s k ++ (if (s.cells.getD k z0).2.1 = true then [((k : Int) + 1, (s.cells.getD k z0).1)] else [])
theorem seqOf_len (s : St Int) : ∀ k, (seqOf s k).length ≤ k
  | 0 => Nat.le_refl _
  | k + 1 => by
    have := seqOf_len s k
    rw [seqOf, List.length_append]
    split <;> simp <;> omega
def encA (x : Int × Int) : Array Value := #[.int .i64 x.1, .int .i64 x.2]
/-- what a round keeps: the arena and the iterator's box -/
structure KA (g : Nat) (v : Value) (Bs : Nat) (W W' : World) : Prop where
  a : W'.heap[g]? = W.heap[g]?
  b : W'.heap[Bs]? = W.heap[Bs]?
  r : ∀ k, v.ownBlock = some k → W'.heap[k]? = W.heap[k]?
  n : W.heap.size ≤ W'.heap.size
theorem KA.refl (g : Nat) (v : Value) (Bs : Nat) (W : World) : KA g v Bs W W := ⟨rfl, rfl, fun _ _ => rfl, Nat.le_refl _⟩
theorem KA.trans {Bs : Nat} {A D C : World} (h : KA g v Bs A D) (k : KA g v Bs D C) : KA g v Bs A C := ⟨k.a.trans h.a, k.b.trans h.b, fun j hj => (k.r j hj).trans (h.r j hj), Nat.le_trans h.n k.n⟩
theorem KA.below {Bs : Nat} (h : Below W.heap.size W W') (hg : g < W.heap.size) (hr : ∀ k, v.ownBlock = some k → k < W.heap.size) (hb : Bs < W.heap.size) : KA g v Bs W W' := ⟨h.block _ hg, h.block _ hb, fun k hk => h.block k (hr k hk), h.size⟩
theorem KA.at {Bs : Nat} (h : KA g v Bs W W') (hA : AI B W g v s) : AI B W' g v s := hA.move h.a h.r
theorem grownOf {W W' : World} (h : Below W.heap.size W W') : W.grownBy W' none := ⟨h.os, h.tape, h.output, h.size, fun k hk _ => h.block k hk⟩
set_option maxRecDepth 100000 in
set_option maxHeartbeats 4000000 in
theorem all_calls (w : World) : CallsIn Fence.wide 6 Try.prog 23 #[.pointer (some ⟨g, 0, none⟩)] w fun e w' => e = .returned (.func (.func 66) #[] #[.pointer (some ⟨w.heap.size, 0, none⟩)]) ∧ w' = w.alloc (.cells #[.pointer (some ⟨g, 0, none⟩)] 35) := by
  refine callsIn_of_wp Try.func23 rfl trivial ?_ rfl
  simp only [Try.ntmps23, List.size_toArray, List.length_cons, List.length_nil, Nat.reduceAdd, Nat.reduceSub, Array.replicate_succ, Array.replicate_zero, List.push_toArray, List.append_toArray, List.nil_append, List.cons_append]
  gi_wp2
  go_ret
  exact ⟨rfl, rfl⟩
set_option maxRecDepth 100000 in
set_option maxHeartbeats 8000000 in
theorem all_stops (W0 : World) (hA : AI B W0 g v s) (hl : s.cells.length < 1000000) (Bs : Nat) (hs : W0.cell? ⟨Bs, 0, none⟩ = some (.pointer (some ⟨g, 0, none⟩))) (hBs : Bs < W0.heap.size) :
    SeqStopsK Fence.wide 6 Try.prog 66 #[.pointer (some ⟨Bs, 0, none⟩)] encA (KA g v Bs) (fun ys => ys = seqOf s s.cells.length)
      (fun pre => ∃ k, k ≤ s.cells.length ∧ pre = seqOf s k) s.cells.length W0 := fun l J Jx W hW hJ hJx hY h0 => by
  have hKW : KA g v Bs W0 W := KA.below hW hA.lt hA.rlt hBs
  have KS : ∀ {W1 : World}, KA g v Bs W0 W1 → W1.cell? ⟨Bs, 0, none⟩ = some (.pointer (some ⟨g, 0, none⟩)) := fun h => (World.cell?_of_block (a := ⟨Bs, 0, none⟩) h.b).trans hs
  have KAt : ∀ {W1 : World}, KA g v Bs W0 W1 → AI B W1 g v s := fun h => h.at hA
  have KB : ∀ {W1 W2 : World}, KA g v Bs W0 W1 → Below W1.heap.size W1 W2 → KA g v Bs W0 W2 := fun h hb => h.trans (KA.below hb (Nat.lt_of_lt_of_le hA.lt h.n) (fun k hk => Nat.lt_of_lt_of_le (hA.rlt k hk) h.n) (Nat.lt_of_lt_of_le hBs h.n))
  have HKS := Aside0.mk @KS
  have HKA := Aside0.mk @KAt
  have HKB := Aside0.mk @KB
  have HW := Aside0.mk hKW
  have HY := Aside0.mk hY
  have HJ0 := Aside0.mk h0
  have HAJ := Aside0.mk hJ
  obtain ⟨n, hn⟩ : ∃ n, s.cells.length = n := ⟨_, rfl⟩
  have HN := Aside0.mk hn
  rw [hn] at hl
  clear hY h0 hJ hJx KS KAt KB hs hA hW hKW hn
  refine callsIn_of_wp Try.func66 rfl trivial ?_ rfl
  simp only [Try.ntmps66, List.size_toArray, List.length_cons, List.length_nil, Nat.reduceAdd, Nat.reduceSub, Array.replicate_succ, Array.replicate_zero, List.push_toArray, List.append_toArray, List.nil_append, List.cons_append]
  gi_wp2
  gi_loopw [3] (fun i wr => ∃ j : Nat, i = .int .i64 ((j : Int) + 1) ∧ j ≤ n ∧ Aside0 (J (seqOf s j) wr) ∧ Aside0 (KA g v Bs W0 wr)) (fun i _ => n + 1 - (intOf i).toNat)
  case atStart => exact ⟨0, rfl, Nat.zero_le _, HJ0, HW⟩
  case round =>
    obtain ⟨j, rfl, hj, HJs, HWs⟩ := hrel
    have b1 := HKS.out HWs.out
    by_cases hlt : j < n
    · have hlt1 : (j : Int) + 1 ≤ (n : Int) := by omega
      have HTOP := Aside0.mk (top_int wr (HKA.out HWs.out))
      have HGET := Aside0.mk (get_int wr (HKA.out HWs.out) ((j : Int) + 1) (by rw [HN.out]; exact hl))
      have hget : get s ((j : Int) + 1) = if (s.cells.getD j z0).2.1 = true then ((s.cells.getD j z0).1, true) else (0, false) := by
        have hjl : j < s.cells.length := by rw [HN.out]; exact hlt
        have e : ((j : Int) + 1 - 1).toNat = j := by omega
        have hh : s.has ((j : Int) + 1) = (s.cells.getD j z0).2.1 := by
          unfold St.has
          rw [decide_eq_true (by omega), decide_eq_true (by omega), e, List.getElem?_eq_getElem hjl, List.getD_eq_getElem?_getD, List.getElem?_eq_getElem hjl]
          rfl
        unfold get
        rw [hh, e]
      rw [HN.out] at HTOP
      have hsq : seqOf s (j + 1) = seqOf s j ++ (if (s.cells.getD j z0).2.1 = true then [((j : Int) + 1, (s.cells.getD j z0).1)] else []) := rfl
      cases hb : (s.cells.getD j z0).2.1
      · rw [hb] at hget hsq
        rw [if_neg (by decide)] at hget hsq
        rw [List.append_nil] at hsq
        rw [hget] at HGET
        have HSQ := Aside0.mk hsq
        clear hget hsq hb
        gi_wp2_with (first
          | (refine ⟨trivial, ?_⟩; gi_at_call 65; refine (callsIn_wide.2 HTOP.out).mono ?_; rintro e w1 ⟨rfl, rfl⟩)
          | (refine ⟨trivial, ?_⟩; gi_at_call 55; refine (callsIn_wide.2 HGET.out).mono ?_; rintro e w1 ⟨rfl, rfl⟩))
        all_goals
          refine ⟨fun _ h => (by cases h), ?_⟩
          gi_wp2
          go_roundw
          case rel => exact ⟨j + 1, by simp, by omega, ⟨by rw [HSQ.out]; exact HJs.out⟩, HWs⟩
          case measure => simp [intOf]; omega
      · rw [hb] at hget hsq
        rw [if_pos rfl] at hget hsq
        rw [hget] at HGET
        have HSQ := Aside0.mk hsq
        generalize (s.cells.getD j z0).1 = x at *
        obtain ⟨fn, tmps, assign, body, hy, hRd⟩ := HY.out _ ((j : Int) + 1, x) wr HJs.out (by have := seqOf_len s j; rw [HN.out]; omega)
        have HRd := Aside0.mk hRd
        dsimp only [encA] at hy
        clear hget hsq hb hRd
        gi_wp2_with (first
          | (refine ⟨trivial, ?_⟩; gi_at_call 65; refine (callsIn_wide.2 HTOP.out).mono ?_; rintro e w1 ⟨rfl, rfl⟩)
          | (refine ⟨trivial, ?_⟩; gi_at_call 55; refine (callsIn_wide.2 HGET.out).mono ?_; rintro e w1 ⟨rfl, rfl⟩))
        refine HRd.out.mono ?_
        rintro e W3 (⟨rfl, hJ3, hk3⟩ | ⟨rfl, hJx3⟩)
        · have HJ3 := Aside0.mk hJ3
          have HK3 := Aside0.mk hk3
          clear hJ3 hk3
          gi_wp2
          go_roundw
          case rel => exact ⟨j + 1, by simp, by omega, ⟨by rw [HSQ.out]; exact HJ3.out⟩, ⟨HWs.out.trans HK3.out⟩⟩
          case measure => simp [intOf]; omega
        · gi_wp2
          refine bodyPost_ret (results_none rfl _ _ _) rfl ?_
          exact ⟨⟨_, rfl⟩, .inr ⟨_, ⟨j + 1, by rw [HN.out]; omega, HSQ.out.symm⟩, hJx3⟩⟩
    · obtain rfl : j = n := by omega
      have hge2 : (j : Int) < (j : Int) + 1 := by omega
      have HTOP := Aside0.mk (top_int wr (HKA.out HWs.out))
      rw [HN.out] at HTOP
      clear hlt
      gi_wp2_with (first
        | (refine ⟨trivial, ?_⟩; gi_at_call 65; refine (callsIn_wide.2 HTOP.out).mono ?_; rintro e w1 ⟨rfl, rfl⟩))
      go_end0
      exact ⟨⟨_, rfl⟩, .inl ⟨_, rfl, by rw [HN.out]; exact HJs.out⟩⟩
theorem ne_nil (f : Fn) (a b : Array Value) (w : World) : (binOp .eql 53 (.func f a b) .nilFunc).run Try.prog w = .ok (.bool false) w := by
  have hE : (Op.equalIn (9999 + 1) 53 (.func f a b) .nilFunc).run Try.prog w = .ok false w := by
    rw [Op.equalIn]
    simp [go_sem]
  have hE2 : (Op.equalIn Op.maxDepth 53 (.func f a b) .nilFunc).run Try.prog w = .ok false w := hE
  simp [binOp, Op.equal, go_sem, hE2]
end Go.Proofs.Ytpfikmchimlneaa.Ar
