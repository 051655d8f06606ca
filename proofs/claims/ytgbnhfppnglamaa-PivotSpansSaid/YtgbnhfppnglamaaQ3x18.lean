-- written by a program of this session (wip/myprint.py), over the kit's printer and the session's own contracts
import Derived.Test.YtgbnhfppnglamaaQ3x0
import Derived.Test.YtgbnhfppnglamaaQ3x9
import Derived.Test.YtgbnhfppnglamaaQ3x10
import Derived.Test.YtgbnhfppnglamaaQ3x12
import Derived.Test.YtgbnhfppnglamaaQ3x13
import Derived.Test.YtgbnhfppnglamaaQ3x15
import Derived.Test.YtgbnhfppnglamaaQ3x16
import Derived.Test.YtgbnhfppnglamaaQ3x17
namespace Go.Proofs.Ytgbnhfppnglamaa.Q3
open Go.RowKit Go.Proofs.YtgbnhfppnglamaaW.PrintWords Go.Proofs.YtgbnhfppnglamaaW.PrintLast Go.Proofs.YtgbnhfppnglamaaW.PrintMore Go.Proofs.YtgbnhfppnglamaaW.Mine
attribute [local go_sem] max2_int min2_int max_two min_two max_three min_three max_four min_four max2_str min2_str binOp_gtr_str binOp_leq_str binOp_geq_str   -- for this text's walks alone
set_option linter.unusedVariables false
set_option linter.unusedSimpArgs false

/-! ### pivot_Meets: function 51 -/
open Go.Shelf
attribute [local go_sem] Oper.semAt_some
-- over pivot_Right, pivot_span, key_Meet
def pivot_All.upto {α : Type} (f : Nat → α) (k : Nat) : List α := (List.range k).map f
theorem pivot_All.upto_succ {α : Type} (f : Nat → α) (k : Nat) : pivot_All.upto f (k + 1) = pivot_All.upto f k ++ [f k] := by simp [pivot_All.upto, List.range_succ]
theorem pivot_All.upto_length {α : Type} (f : Nat → α) (k : Nat) : (pivot_All.upto f k).length = k := by simp [pivot_All.upto]
/-- the part i -/
def pivot_All.part (l : List ByteArray) (a b : ByteArray) (i : Nat) : ByteArray × ByteArray := (if i = 0 then a else rdOf ByteArray.empty l ((i : Int) - 1), if i < l.length then rdOf ByteArray.empty l (i : Int) else b)
theorem pivot_All.span (l : List ByteArray) (a b : ByteArray) (i : Nat) (hi : i ≤ l.length) (hl : l.length ≤ 9223372036854775807) : pivot_span.f l a b (i : Int) = some ((pivot_All.part l a b i).1, (pivot_All.part l a b i).2) := by
  unfold pivot_span.f pivot_All.part
  by_cases h0 : i = 0
  · subst h0
    rw [if_neg (by omega), if_pos rfl]
    by_cases h1 : 0 < l.length
    · simp [h1]
    · simp [h1]
  · have hw : wrap64 ((i : Int) - 1) = (i : Int) - 1 := by unfold wrap64; omega
    rw [if_pos (by omega), hw, if_pos (by omega), if_pos (by omega), if_neg h0]
    by_cases h1 : i < l.length
    · rw [if_pos (by omega), if_pos (by omega), if_pos h1]
    · rw [if_neg (by omega), if_neg h1]
abbrev pivot_All.T := Nat × ByteArray × ByteArray
def pivot_All.enc (x : pivot_All.T) : Array Value := #[.int .i64 (x.1 : Int), .agg #[.string x.2.1, .string x.2.2]]
def pivot_All.at (l : List ByteArray) (a b : ByteArray) (i : Nat) : pivot_All.T := (i, (pivot_All.part l a b i).1, (pivot_All.part l a b i).2)
def pivot_All.many (right : Bool) (l : List ByteArray) : Nat := if right = true then l.length + 1 else 0
set_option maxRecDepth 100000 in
set_option maxHeartbeats 4000000 in
theorem pivot_All.calls (A0 : Option Addr) (c0 : Nat) (l0 : List ByteArray) (a b : ByteArray) (w : World) :
    CallsIn Fence.wide 5 Try.prog 81 #[.slice A0 l0.length c0, .agg #[.string a, .string b]] w fun e w' => e = .returned (.func (.func 96) #[] #[.pointer (some ⟨w.heap.size, 0, none⟩), .pointer (some ⟨w.heap.size + 1, 0, none⟩)]) ∧
      w' = (w.alloc (.cells #[.slice A0 l0.length c0] 35)).alloc (.cells #[.string a, .string b] 80) := by
  have hu80 := Try.underlying80
  refine callsIn_of_wp Try.func81 rfl trivial ?_ rfl
  simp only [Try.ntmps81, List.size_toArray, List.length_cons, List.length_nil, Nat.reduceAdd, Nat.reduceSub, Array.replicate_succ, Array.replicate_zero, List.push_toArray, List.append_toArray, List.nil_append, List.cons_append]
  gi_wp2
  go_ret
  exact ⟨rfl, rfl⟩
theorem pivot_All.grown {W W' : World} (h : Below W.heap.size W W') : W.grownBy W' none := ⟨h.os, h.tape, h.output, h.size, fun k hk _ => h.block k hk⟩
/-- what a round keeps: all that lay ahead of the loop's function, and the iterator's two boxes -/
def pivot_All.Kp (n Bs Br : Nat) (W W' : World) : Prop := Below n W W' ∧ W'.heap[Bs]? = W.heap[Bs]? ∧ W'.heap[Br]? = W.heap[Br]?
theorem pivot_All.Kp.trans {n Bs Br : Nat} {A B C : World} (h : pivot_All.Kp n Bs Br A B) (h2 : pivot_All.Kp n Bs Br B C) : pivot_All.Kp n Bs Br A C := ⟨h.1.trans h2.1, h2.2.1.trans h.2.1, h2.2.2.trans h.2.2⟩
theorem pivot_All.Kp.of {n m Bs Br : Nat} {W W' : World} (h : Below m W W') (hn : n ≤ m) (h1 : Bs < m) (h2 : Br < m) : pivot_All.Kp n Bs Br W W' := ⟨h.mono hn, h.block Bs h1, h.block Br h2⟩
theorem pivot_All.Kp.cells {n Bs Br : Nat} {W W' : World} (h : pivot_All.Kp n Bs Br W W') (o : Nat) : W'.cell? ⟨Bs, o, none⟩ = W.cell? ⟨Bs, o, none⟩ := World.cell?_of_block (a := ⟨Bs, o, none⟩) h.2.1
theorem pivot_All.Kp.cellr {n Bs Br : Nat} {W W' : World} (h : pivot_All.Kp n Bs Br W W') (o : Nat) : W'.cell? ⟨Br, o, none⟩ = W.cell? ⟨Br, o, none⟩ := World.cell?_of_block (a := ⟨Br, o, none⟩) h.2.2
set_option maxRecDepth 100000 in
set_option maxHeartbeats 8000000 in
theorem pivot_All.stops (k : Nat) (A0 : Option Addr) (c0 : Nat) (l0 : List ByteArray) (a b : ByteArray) (right : Bool) (w W0 : World) (Bs Br : Nat) (hr0 : Kd.C Kd.string w A0 l0.length l0) (hc0 : l0.length ≤ c0) (hl : l0.length < 9223372036854775807) (hR : pivot_Right.f k l0 a b = some right) (hB : Below w.heap.size w W0)
    (hs : W0.cell? ⟨Bs, 0, none⟩ = some (.slice A0 l0.length c0)) (hra : W0.cell? ⟨Br, 0, none⟩ = some (.string a)) (hrb : W0.cell? ⟨Br, 1, none⟩ = some (.string b)) (hBs : Bs < W0.heap.size) (hBr : Br < W0.heap.size) :
    SeqStopsK Fence.wide 5 Try.prog 96 #[.pointer (some ⟨Bs, 0, none⟩), .pointer (some ⟨Br, 0, none⟩)] pivot_All.enc (pivot_All.Kp w.heap.size Bs Br) (fun ys => ys = pivot_All.upto (pivot_All.at l0 a b) (pivot_All.many right l0))
      (fun pre => ∃ k, k ≤ pivot_All.many right l0 ∧ pre = pivot_All.upto (pivot_All.at l0 a b) k) (pivot_All.many right l0) W0 := fun l J Jx W hW hJ hJx hY h0 => by
  have hu80 := Try.underlying80
  have KS : ∀ {W1 : World}, pivot_All.Kp w.heap.size Bs Br W0 W1 → W1.cell? ⟨Bs, 0, none⟩ = some (.slice A0 l0.length c0) := fun h => (h.cells 0).trans hs
  have KA : ∀ {W1 : World}, pivot_All.Kp w.heap.size Bs Br W0 W1 → W1.cell? ⟨Br, 0, none⟩ = some (.string a) := fun h => (h.cellr 0).trans hra
  have KB : ∀ {W1 : World}, pivot_All.Kp w.heap.size Bs Br W0 W1 → W1.cell? ⟨Br, 1, none⟩ = some (.string b) := fun h => (h.cellr 1).trans hrb
  have KC : ∀ {W1 : World}, pivot_All.Kp w.heap.size Bs Br W0 W1 → Kd.C Kd.string W1 A0 l0.length l0 := fun h => Kd.C_below hr0 (hB.trans h.1)
  have HKS := Aside0.mk @KS
  have HKA := Aside0.mk @KA
  have HKB := Aside0.mk @KB
  have HKC := Aside0.mk @KC
  have hWn : pivot_All.Kp w.heap.size Bs Br W0 W := .of hW hB.size hBs hBr
  have HW := Aside0.mk hWn
  have HY := Aside0.mk hY
  have HJ0 := Aside0.mk h0
  have HR := Aside0.mk hR
  have HAJ := Aside0.mk hJ
  have b1 := KS hWn
  have b2 := KA hWn
  have b3 := KB hWn
  have hn1 : W0.heap.size ≤ W.heap.size := hW.size
  have hn0 := hB.size
  clear hY h0 hR hJ hJx KS KA KB KC hs hra hrb hr0 hWn
  refine callsIn_of_wp Try.func96 rfl trivial ?_ rfl
  simp only [Try.ntmps96, List.size_toArray, List.length_cons, List.length_nil, Nat.reduceAdd, Nat.reduceSub, Array.replicate_succ, Array.replicate_zero, List.push_toArray, List.append_toArray, List.nil_append, List.cons_append]
  gi_wp2_with (refine ⟨trivial, ?_⟩; gi_at_call 55; refine (callsIn_wide.2 (pivot_Right.calls k A0 c0 l0 a b right _ (HKC.out HW.out) hc0 HR.out)).mono ?_; rintro e w1 ⟨rfl, hb1⟩)
  · have hrf : right = false := by rename_i hx; simpa using hx
    subst hrf
    refine bodyPost_ret (results_none rfl _ _ _) rfl ?_
    exact ⟨⟨_, rfl⟩, .inl ⟨_, rfl, HAJ.out [] W w1 none HJ0.out (pivot_All.grown hb1) (by simp)⟩⟩
  · have hrt : right = true := by rename_i hx; simpa using hx
    subst hrt
    have HJ1 := Aside0.mk (HAJ.out [] W w1 none HJ0.out (pivot_All.grown hb1) (by simp))
    have HW1 := Aside0.mk (HW.out.trans (.of hb1 (Nat.le_trans hn0 hn1) (Nat.lt_of_lt_of_le hBs hn1) (Nat.lt_of_lt_of_le hBr hn1)))
    have hn2 : W0.heap.size ≤ w1.heap.size := Nat.le_trans hn1 hb1.size
    have hmany : pivot_All.many true l0 = l0.length + 1 := rfl
    have HM := Aside0.mk hmany
    clear hb1 hmany HJ0 HR
    simp only [Bool.not_true]
    gi_loopw [4] (fun i wr => ∃ j : Nat, i = .int .i64 (j : Int) ∧ j ≤ l0.length + 1 ∧ Aside0 (J (pivot_All.upto (pivot_All.at l0 a b) j) wr) ∧ Aside0 (pivot_All.Kp w.heap.size Bs Br W0 wr) ∧ W0.heap.size ≤ wr.heap.size) (fun i _ => l0.length + 1 - (intOf i).toNat)
    case atStart => exact ⟨0, rfl, by omega, HJ1, HW1, hn2⟩
    case round =>
      obtain ⟨j, rfl, hj, HJs, HWs, hns⟩ := hrel
      have b1 := HKS.out HWs.out
      have b2 := HKA.out HWs.out
      have b3 := HKB.out HWs.out
      by_cases hlt : j ≤ l0.length
      · have hlt1 : (decide ((j : Int) ≤ (l0.length : Int))) = true := decide_eq_true (by omega)
        have hlt2 : ((j : Int) ≤ (l0.length : Int)) = True := eq_true (by omega)
        have HSP := Aside0.mk (pivot_All.span l0 a b j hlt (by omega))
        gi_wp2_with (refine ⟨trivial, ?_⟩; gi_at_call 82; refine (callsIn_wide.2 (pivot_span.calls A0 c0 l0 a b (j : Int) _ _ _ (HKC.out HWs.out) hc0 HSP.out)).mono ?_; rintro e w2 ⟨rfl, hb2⟩; have HJ2 := Aside0.mk (HAJ.out _ _ w2 none HJs.out (pivot_All.grown hb2) (by simp)); have HW2 := Aside0.mk (HWs.out.trans (.of hb2 (Nat.le_trans hn0 hns) (Nat.lt_of_lt_of_le hBs hns) (Nat.lt_of_lt_of_le hBr hns))); have hn3 : W0.heap.size ≤ w2.heap.size := Nat.le_trans hns hb2.size; clear hb2; obtain ⟨fn, tmps, assign, body, hy, hRd⟩ := HY.out _ (pivot_All.at l0 a b j) w2 HJ2.out (by rw [pivot_All.upto_length, HM.out]; omega); have HRd := Aside0.mk hRd; clear hRd; dsimp only [pivot_All.enc, pivot_All.at] at hy)
        refine HRd.out.mono ?_
        rintro e W3 (⟨rfl, hJ3, hk3⟩ | ⟨rfl, hJx3⟩)
        · have HJ3 := Aside0.mk hJ3
          have HK3 := Aside0.mk hk3
          clear hJ3 hk3
          gi_wp2
          go_roundw
          case rel => exact ⟨j + 1, by simp, by omega, ⟨by rw [pivot_All.upto_succ]; exact HJ3.out⟩, ⟨HW2.out.trans HK3.out⟩, Nat.le_trans hn3 HK3.out.1.size⟩
          case measure => simp [intOf]; omega
        · gi_wp2
          refine bodyPost_ret (results_none rfl _ _ _) rfl ?_
          exact ⟨⟨_, rfl⟩, .inr ⟨_, ⟨j + 1, by rw [HM.out]; omega, (pivot_All.upto_succ _ _).symm⟩, hJx3⟩⟩
      · obtain rfl : j = l0.length + 1 := by omega
        have hge1 : (decide (((l0.length + 1 : Nat) : Int) ≤ (l0.length : Int))) = false := decide_eq_false (by omega)
        have hge2 : (((l0.length + 1 : Nat) : Int) ≤ (l0.length : Int)) = False := eq_false (by omega)
        have hge3 : (decide (((l0.length : Int) + 1) ≤ (l0.length : Int))) = false := decide_eq_false (by omega)
        gi_wp2
        go_end0
        exact ⟨⟨_, rfl⟩, .inl ⟨_, rfl, by rw [HM.out]; exact HJs.out⟩⟩
theorem pivot_Meets.right (a b : ByteArray) : ∃ r, key_RightRange.f a b = some r := by
  unfold key_RightRange.f key_ahead.f
  split <;> exact ⟨_, rfl⟩
theorem pivot_Meets.before (a b : ByteArray) : ∃ r, key_Before.f a b = some r := by
  unfold key_Before.f
  split
  · exact ⟨_, rfl⟩
  · split <;> exact ⟨_, rfl⟩
theorem pivot_Meets.first (a b : ByteArray) : ∃ r, key_First.f a b = some r := by
  unfold key_First.f
  obtain ⟨r, h⟩ := pivot_Meets.before b a
  rw [h, Option.bind_some]
  split <;> exact ⟨_, rfl⟩
theorem pivot_Meets.meet (a b c d : ByteArray) : ∃ r1 r2 r3, key_Meet.f 1 a b c d = some (r1, r2, r3) := by
  unfold key_Meet.f
  obtain ⟨r, h⟩ := pivot_Meets.right a b
  rw [h, Option.bind_some]
  split
  · obtain ⟨r, h⟩ := pivot_Meets.right c d
    rw [h, Option.bind_some, key_Meet.j0]
    split
    · exact ⟨_, _, _, rfl⟩
    · obtain ⟨t, ht⟩ := pivot_Meets.first b d
      rw [ht, Option.bind_some]
      obtain ⟨t2, ht2⟩ := pivot_Meets.right (smx a c) t
      rw [ht2, Option.bind_some]
      split <;> exact ⟨_, _, _, rfl⟩
  · rw [key_Meet.j0, if_pos rfl]
    exact ⟨_, _, _, rfl⟩
def pivot_Meets.ok (x0 x1 : ByteArray) (y : pivot_All.T) : Bool := match key_Meet.f 1 x0 x1 y.2.1 y.2.2 with | some r => r.2.2 | none => false
def pivot_Meets.step (x0 x1 : ByteArray) (s : Int × Int) (y : pivot_All.T) : Int × Int := if pivot_Meets.ok x0 x1 y = true then (if s.2 = 0 then (y.1 : Int) else s.1, wrap64 (s.2 + 1)) else s
def pivot_Meets.st (x0 x1 : ByteArray) (l : List pivot_All.T) : Int × Int := l.foldl (pivot_Meets.step x0 x1) (0, 0)
theorem pivot_Meets.st_snoc (x0 x1 : ByteArray) (l : List pivot_All.T) (y : pivot_All.T) : pivot_Meets.st x0 x1 (l ++ [y]) = pivot_Meets.step x0 x1 (pivot_Meets.st x0 x1 l) y := by simp [pivot_Meets.st]
def pivot_Meets.f (k : Nat) (l : List ByteArray) (r0 r1 x0 x1 : ByteArray) : Option (Int × Int) := if l.length < 9223372036854775807 then (pivot_Right.f k l r0 r1).bind fun right => some (pivot_Meets.st x0 x1 (pivot_All.upto (pivot_All.at l r0 r1) (pivot_All.many right l))) else none
theorem pivot_Meets.mono : ∀ a0 a1 a2 a3 a4 k, LeO (pivot_Meets.f k a0 a1 a2 a3 a4) (pivot_Meets.f (k + 1) a0 a1 a2 a3 a4) := by
  intro a0 a1 a2 a3 a4 k
  unfold pivot_Meets.f
  refine LeO.ite (LeO.bind (pivot_Right.mono _ _ _ _) (fun _ => LeO.refl _)) (LeO.none _)
def pivot_All.Box2 (W : World) (B : Nat) (t : TypeId) (u v : Value) : Prop := W.heap[B]? = some (.cells #[u, v] t (0, 0))
theorem pivot_All.Box2.lt {W : World} {B : Nat} {t : TypeId} {u v : Value} (h : pivot_All.Box2 W B t u v) : B < W.heap.size := (Array.getElem?_eq_some_iff.1 h).1
theorem pivot_All.Box2.cell0 {W : World} {B : Nat} {t : TypeId} {u v : Value} (h : pivot_All.Box2 W B t u v) : W.cell? ⟨B, 0, none⟩ = some u := by simp [World.cell?, show W.heap[B]? = _ from h]
theorem pivot_All.Box2.cell1 {W : World} {B : Nat} {t : TypeId} {u v : Value} (h : pivot_All.Box2 W B t u v) : W.cell? ⟨B, 1, none⟩ = some v := by simp [World.cell?, show W.heap[B]? = _ from h]
theorem pivot_All.Box2.new (W : World) (t : TypeId) (u v : Value) : pivot_All.Box2 (W.alloc (.cells #[u, v] t)) W.heap.size t u v := World.alloc_heap_new W _
theorem pivot_All.Box2.kept {W W' : World} {row : Option Nat} {B : Nat} {t : TypeId} {u v : Value} (h : pivot_All.Box2 W B t u v) (hg : W.grownBy W' row) (hne : some B ≠ row) : pivot_All.Box2 W' B t u v := (hg.block B h.lt hne).trans h
theorem pivot_All.Box2.alloc {W : World} {B : Nat} {t : TypeId} {u v : Value} (h : pivot_All.Box2 W B t u v) (o : Obj) : pivot_All.Box2 (W.alloc o) B t u v := h.kept (World.grownBy_alloc W o none) (by simp)
theorem pivot_All.box2_own {β : Type} (B : Nat) (t : TypeId) (f g : β → Value) : Own (fun s W => pivot_All.Box2 W B t (f s) (g s)) := fun s X Y row hs hg hrow =>
  hs.kept hg (fun e' => by obtain ⟨o, ho, hc⟩ := hrow B e'.symm; rw [show X.heap[B]? = _ from hs] at ho; cases ho; cases hc)
theorem pivot_All.Box2.other {W : World} {B B' : Nat} {t : TypeId} {u v : Value} (h : pivot_All.Box2 W B t u v) (hne : B ≠ B') (x : Value) : pivot_All.Box2 (W.setCell ⟨B', 0, none⟩ x) B t u v := h.kept (grownBy_setCell' W B' x) (fun e => hne (by cases e; rfl))
theorem pivot_Meets.keep {W w1 : World} {B : Nat} {v : Value} (hb : Below W.heap.size W w1) (h : W.cell? ⟨B, 0, none⟩ = some v) (hf : W.frozen? ⟨B, 0, none⟩ = false) (hl : B < W.heap.size) (o : Obj) : (w1.alloc o).cell? ⟨B, 0, none⟩ = some v ∧ (w1.alloc o).frozen? ⟨B, 0, none⟩ = false := by
  have e : (w1.alloc o).heap[B]? = W.heap[B]? := (Below.heap_alloc w1 o B (Nat.lt_of_lt_of_le hl hb.size)).trans (hb.block B hl)
  exact ⟨(World.cell?_of_block (a := ⟨B, 0, none⟩) e).trans h, (World.frozen?_of_block (a := ⟨B, 0, none⟩) e).trans hf⟩
theorem pivot_All.Kp.set {n Bs Br : Nat} {W W' : World} (h : pivot_All.Kp n Bs Br W W') {B' : Nat} (hn : n ≤ B') (h1 : Bs ≠ B') (h2 : Br ≠ B') (v : Value) : pivot_All.Kp n Bs Br W (W'.setCell ⟨B', 0, none⟩ v) :=
  ⟨h.1.setCell (p := ⟨B', 0, none⟩) hn v, (Below.heap_setCell _ _ _ _ h1).trans h.2.1, (Below.heap_setCell _ _ _ _ h2).trans h.2.2⟩
theorem pivot_All.size_own {β : Type} (B n : Nat) : OwnFrom B (fun (_ : β) W => n ≤ W.heap.size) := fun _ X Y row hs hg hr => Nat.le_trans hs hg.size
set_option maxRecDepth 100000 in
set_option maxHeartbeats 8000000 in
theorem pivot_Meets.calls (k : Nat) (A0 : Option Addr) (c0 : Nat) (l0 : List ByteArray) (a1_0 a1_1 a2_0 a2_1 : ByteArray) (r1 r2 : Int) (w : World) (hr0 : Kd.C Kd.string w A0 l0.length l0) (hc0 : l0.length ≤ c0) (h : pivot_Meets.f k l0 a1_0 a1_1 a2_0 a2_1 = some (r1, r2)) :
    Calls Try.prog 51 #[.slice A0 l0.length c0, .agg #[.string a1_0, .string a1_1], .agg #[.string a2_0, .string a2_1]] w fun e w' => e = .returned (.tuple #[.int .i64 r1, .int .i64 r2]) ∧ Below w.heap.size w w' := by
  have hu80 := Try.underlying80
  have hl : l0.length < 9223372036854775807 := by
    unfold pivot_Meets.f at h
    split at h
    · assumption
    · exact absurd h (by simp)
  unfold pivot_Meets.f at h
  rw [if_pos hl] at h
  obtain ⟨right, hright, h⟩ := Option.bind_eq_some_iff.1 h
  have HRT := Aside0.mk hright
  have HRES := Aside0.mk h
  have HR0 := Aside0.mk hr0
  clear h hright hr0
  refine (callsIn_wide (n := 6)).1 ?_
  refine callsIn_of_wp_marks Try.func51 rfl trivial ?_ rfl
  simp only [Try.ntmps51, List.size_toArray, List.length_cons, List.length_nil, Nat.reduceAdd, Nat.reduceSub, Array.replicate_succ, Array.replicate_zero, List.push_toArray, List.append_toArray, List.nil_append, List.cons_append]
  gi_wp2_with (refine ⟨trivial, ?_⟩; gi_at_call 81; refine (pivot_All.calls A0 c0 l0 a1_0 a1_1 _).mono ?_; rintro e w' ⟨rfl, rfl⟩)
  have bF := ((Boxed.new ((w.alloc (.cells #[.string a1_0, .string a1_1] 80)).alloc (.cells #[.string a2_0, .string a2_1] 80)) 3 (.int .i64 0)).alloc (.cells #[.int .i64 0] 3)).alloc (.cells #[.slice A0 l0.length c0] 35)
  have bN := (Boxed.new (((w.alloc (.cells #[.string a1_0, .string a1_1] 80)).alloc (.cells #[.string a2_0, .string a2_1] 80)).alloc (.cells #[.int .i64 0] 3)) 3 (.int .i64 0)).alloc (.cells #[.slice A0 l0.length c0] 35)
  have bX := (((pivot_All.Box2.new (w.alloc (.cells #[.string a1_0, .string a1_1] 80)) 80 (.string a2_0) (.string a2_1)).alloc (.cells #[.int .i64 0] 3)).alloc (.cells #[.int .i64 0] 3)).alloc (.cells #[.slice A0 l0.length c0] 35)
  have bS := Boxed.new ((((w.alloc (.cells #[.string a1_0, .string a1_1] 80)).alloc (.cells #[.string a2_0, .string a2_1] 80)).alloc (.cells #[.int .i64 0] 3)).alloc (.cells #[.int .i64 0] 3)) 35 (.slice A0 l0.length c0)
  have bR := pivot_All.Box2.new (((((w.alloc (.cells #[.string a1_0, .string a1_1] 80)).alloc (.cells #[.string a2_0, .string a2_1] 80)).alloc (.cells #[.int .i64 0] 3)).alloc (.cells #[.int .i64 0] 3)).alloc (.cells #[.slice A0 l0.length c0] 35)) 80 (.string a1_0) (.string a1_1)
  replace bF := bF.alloc (.cells #[.string a1_0, .string a1_1] 80)
  replace bN := bN.alloc (.cells #[.string a1_0, .string a1_1] 80)
  replace bX := bX.alloc (.cells #[.string a1_0, .string a1_1] 80)
  replace bS := bS.alloc (.cells #[.string a1_0, .string a1_1] 80)
  have hB0 : Below w.heap.size w ((((((w.alloc (.cells #[.string a1_0, .string a1_1] 80)).alloc (.cells #[.string a2_0, .string a2_1] 80)).alloc (.cells #[.int .i64 0] 3)).alloc (.cells #[.int .i64 0] 3)).alloc (.cells #[.slice A0 l0.length c0] 35)).alloc (.cells #[.string a1_0, .string a1_1] 80)) :=
    ((((((Below.refl _ w).alloc (Nat.le_refl _) _).alloc (by simp) _).alloc (by simp; omega) _).alloc (by simp; omega) _).alloc (by simp; omega) _).alloc (by simp; omega) _
  have hsz : ((((((w.alloc (.cells #[.string a1_0, .string a1_1] 80)).alloc (.cells #[.string a2_0, .string a2_1] 80)).alloc (.cells #[.int .i64 0] 3)).alloc (.cells #[.int .i64 0] 3)).alloc (.cells #[.slice A0 l0.length c0] 35)).alloc (.cells #[.string a1_0, .string a1_1] 80)).heap.size = w.heap.size + 6 := by simp
  simp only [World.size_alloc] at bF bN bX bS bR ⊢
  obtain ⟨W0, hW0⟩ : ∃ W0, (((((w.alloc (.cells #[.string a1_0, .string a1_1] 80)).alloc (.cells #[.string a2_0, .string a2_1] 80)).alloc (.cells #[.int .i64 0] 3)).alloc (.cells #[.int .i64 0] 3)).alloc (.cells #[.slice A0 l0.length c0] 35)).alloc (.cells #[.string a1_0, .string a1_1] 80) = W0 := ⟨_, rfl⟩
  rw [hW0] at bF bN bX bS bR hB0 hsz ⊢
  clear hW0
  refine wpIn_rangeFunc_ownH rfl (by omega) (gf := 96) (lb := #[.pointer (some ⟨w.heap.size + 1 + 1 + 1 + 1, 0, none⟩), .pointer (some ⟨w.heap.size + 1 + 1 + 1 + 1 + 1, 0, none⟩)]) rfl trivial (enters_of Try.func96 (by kernel_rfl) rfl)
    (pivot_All.stops k A0 c0 l0 a1_0 a1_1 right w W0 (w.heap.size + 1 + 1 + 1 + 1) (w.heap.size + 1 + 1 + 1 + 1 + 1) HR0.out hc0 hl HRT.out hB0 bS.cell bR.cell0 bR.cell1 (by omega) (by omega)) pivot_All.Kp.trans
    (fun W l o o' hl ho hc hw => .of (belowK_b (w := W0) (n₀ := W0.heap.size) (Nat.le_refl _) W l o o' hl ho hc hw) hB0.size (by omega) (by omega)) (Below.refl _ _) (fun _ => rfl)
    (fun pre W => ((Boxed W (w.heap.size + 1 + 1) 3 (.int .i64 (pivot_Meets.st a2_0 a2_1 pre).1) ∧ Boxed W (w.heap.size + 1 + 1 + 1) 3 (.int .i64 (pivot_Meets.st a2_0 a2_1 pre).2)) ∧ pivot_All.Box2 W (w.heap.size + 1) 80 (.string a2_0) (.string a2_1)) ∧ Below w.heap.size w W ∧ w.heap.size + 6 ≤ W.heap.size)
    (fun _ _ _ => False)
    (OwnFrom.and (OwnFrom.and (OwnFrom.and (Own.from (boxed_own _ _ _) _) (Own.from (boxed_own _ _ _) _)) (Own.from (pivot_All.box2_own _ _ _ _) _)) (OwnFrom.and (ownFrom_below (Nat.le_refl _) (by omega)) (pivot_All.size_own _ _)))
    (fun _ _ _ _ _ hs _ _ => hs)
    ⟨⟨⟨bF, bN⟩, bX⟩, hB0, by omega⟩
    (fun x a' W => ∃ Bx, w.heap.size + 5 < Bx ∧ pivot_All.Box2 W Bx 80 (.string x.2.1) (.string x.2.2) ∧ a' = { tmps := #[.slice A0 l0.length c0, .agg #[.string a1_0, .string a1_1], .agg #[.string a2_0, .string a2_1], undef, .pointer (some ⟨w.heap.size, 0, none⟩), .pointer (some ⟨w.heap.size + 1, 0, none⟩), .int .i64 0, .int .i64 0, .pointer (some ⟨w.heap.size + 1 + 1, 0, none⟩), .pointer (some ⟨w.heap.size + 1 + 1 + 1, 0, none⟩), .int .i64 (x.1 : Int), .pointer (some ⟨Bx, 0, none⟩), undef, undef, .slice A0 l0.length c0, .agg #[.string a1_0, .string a1_1], .func (.func 96) #[] #[.pointer (some ⟨w.heap.size + 1 + 1 + 1 + 1, 0, none⟩), .pointer (some ⟨w.heap.size + 1 + 1 + 1 + 1 + 1, 0, none⟩)], .int .i64 (x.1 : Int), .agg #[.string x.2.1, .string x.2.2], undef, undef, undef, undef, undef, undef, undef, undef, undef, undef, undef, undef, undef, undef], defers := [] })
    (fun x a' _ X Y row hs hg hr => by obtain ⟨Bx, h1, h2, h3⟩ := hs; exact ⟨Bx, h1, pivot_All.box2_own Bx 80 (fun (_ : Unit) => Value.string x.2.1) (fun _ => Value.string x.2.2) () X Y row h2 hg (fun r e => (hr r e).2), h3⟩)
    ?assign ?body ?done ?stop
  case assign =>
    rintro l pre ⟨x1, x2, x3⟩ W K ⟨⟨⟨bF1, bN1⟩, bX1⟩, hB1, hz1⟩ hK
    dsimp only [pivot_All.enc]
    gi_wp2
    exact hK _ _ ((KeepsOthers.alloc _ _).from _) (.of ((Below.refl W.heap.size W).alloc (Nat.le_refl _) _) hB1.size (by omega) (by omega)) ⟨⟨⟨bF1.alloc _, bN1.alloc _⟩, bX1.alloc _⟩, hB1.alloc hB1.size _, by simp; omega⟩ ⟨W.heap.size, by omega, pivot_All.Box2.new W 80 _ _, rfl⟩
  case body =>
    rintro l pre ⟨x1, x2, x3⟩ a' W hll ⟨r, hr⟩ ⟨⟨⟨bF1, bN1⟩, bX1⟩, hB1, hz1⟩ ⟨Bx, hBx, bY, rfl⟩ hlt
    have cX0 := bX1.cell0
    have cX1 := bX1.cell1
    have cY0 := bY.cell0
    have cY1 := bY.cell1
    have cF := bF1.cell
    have fF := bF1.frozen
    have cN := bN1.cell
    have fN := bN1.frozen
    have ltF := bF1.lt
    have ltN := bN1.lt
    have HF := Aside0.mk bF1
    have HN := Aside0.mk bN1
    have HX := Aside0.mk bX1
    have HB2 := Aside0.mk hB1
    obtain ⟨m1, m2, m3, hm⟩ := pivot_Meets.meet a2_0 a2_1 x2 x3
    have HM := Aside0.mk hm
    have hst := pivot_Meets.st_snoc a2_0 a2_1 pre (x1, x2, x3)
    have hok : pivot_Meets.ok a2_0 a2_1 (x1, x2, x3) = m3 := by simp only [pivot_Meets.ok, hm]
    have HST := Aside0.mk hst
    have HOK := Aside0.mk hok
    clear hm hst hok bF1 bN1 bX1 bY
    obtain ⟨⟨s1, s2⟩, hs⟩ : ∃ s, pivot_Meets.st a2_0 a2_1 pre = s := ⟨_, rfl⟩
    have HS := Aside0.mk hs
    rw [hs] at cF cN
    clear hs
    dsimp only at cF cN
    gi_wp2_with (refine ⟨trivial, ?_⟩; gi_at_call 83; refine (CallsIn.inRound l (callsIn_wide.2 (key_Meet.calls 1 a2_0 a2_1 x2 x3 m1 m2 m3 _ HM.out))).mono ?_; rintro e w1 ⟨rfl, hb1⟩; have HB1 := Aside0.mk hb1; replace cF := pivot_Meets.keep hb1 cF fF ltF (.cells #[.string m1, .string m2] 80); replace cN := pivot_Meets.keep hb1 cN fN ltN (.cells #[.string m1, .string m2] 80); clear fF fN; obtain ⟨cF, fF⟩ := cF; obtain ⟨cN, fN⟩ := cN; clear hb1)
    all_goals
      have hb1 := HB1.out
      have hbs := HB2.out.size
      have k2 : KeepsFrom W0.heap.size W (w1.alloc (.cells #[.string m1, .string m2] 80)) := ((KeepsOthers.of_grownBy (pivot_All.grown hb1) (by simp)).trans (KeepsOthers.alloc _ _)).from _
      have p2 : pivot_All.Kp w.heap.size (w.heap.size + 1 + 1 + 1 + 1) (w.heap.size + 1 + 1 + 1 + 1 + 1) W (w1.alloc (.cells #[.string m1, .string m2] 80)) := .of (hb1.alloc hb1.size _) hbs (by omega) (by omega)
      have f2 := (HF.out.kept (pivot_All.grown hb1) (by simp)).alloc (.cells #[.string m1, .string m2] 80)
      have n2 := (HN.out.kept (pivot_All.grown hb1) (by simp)).alloc (.cells #[.string m1, .string m2] 80)
      have x2' := (HX.out.kept (pivot_All.grown hb1) (by simp)).alloc (.cells #[.string m1, .string m2] 80)
      have z2 : w.heap.size + 6 ≤ (w1.alloc (.cells #[.string m1, .string m2] 80)).heap.size := by have := hb1.size; simp; omega
      rw [HS.out] at f2 n2
    · have e : pivot_Meets.st a2_0 a2_1 (pre ++ [(x1, x2, x3)]) = ((x1 : Int), wrap64 (s2 + 1)) := by
        rename_i hm3 hs2
        rw [HST.out, HS.out, pivot_Meets.step, HOK.out, if_pos hm3, if_pos (by simpa using hs2)]
      refine ⟨(k2.trans ((KeepsOthers.setCell _ _ _).from _)).trans ((KeepsOthers.setCell _ _ _).from _), (p2.set (by omega) (by omega) (by omega) _).set (by omega) (by omega) (by omega) _, ⟨⟨?_, ?_⟩, ?_⟩, ?_, ?_⟩
      · rw [e]; exact (f2.set _).other (by omega) _
      · rw [e]; exact (n2.other (by omega) _).set _
      · exact (x2'.other (by omega) _).other (by omega) _
      · exact HB2.out.trans (((p2.set (by omega) (by omega) (by omega) _).set (by omega) (by omega) (by omega) _).1)
      · simpa [World.setCell] using z2
    · have e : pivot_Meets.st a2_0 a2_1 (pre ++ [(x1, x2, x3)]) = (s1, wrap64 (s2 + 1)) := by
        rename_i hm3 hs2
        rw [HST.out, HS.out, pivot_Meets.step, HOK.out, if_pos hm3, if_neg (by simpa using hs2)]
      refine ⟨k2.trans ((KeepsOthers.setCell _ _ _).from _), p2.set (by omega) (by omega) (by omega) _, ⟨⟨?_, ?_⟩, ?_⟩, ?_, ?_⟩
      · rw [e]; exact f2.other (by omega) _
      · rw [e]; exact n2.set _
      · exact x2'.other (by omega) _
      · exact HB2.out.trans (p2.set (by omega) (by omega) (by omega) _).1
      · simpa [World.setCell] using z2
    · have e : pivot_Meets.st a2_0 a2_1 (pre ++ [(x1, x2, x3)]) = (s1, s2) := by
        rename_i hm3
        rw [HST.out, HS.out, pivot_Meets.step, HOK.out, hm3, if_neg (by decide)]
      exact ⟨k2, p2, ⟨⟨by rw [e]; exact f2, by rw [e]; exact n2⟩, x2'⟩, HB2.out.trans p2.1, z2⟩
  case done =>
    rintro D zs W hD rfl ⟨⟨⟨bF1, bN1⟩, bX1⟩, hB1, hz1⟩ hK
    have hres := HRES.out
    rw [Option.some.injEq] at hres
    rw [hres] at bF1 bN1
    have cF := bF1.cell
    have cN := bN1.cell
    clear hres
    gi_wp2
    gi_region
    gi_wp2
    refine ⟨by simp, .inl ⟨_, _, rfl, run_takeDeferred hK, ?_⟩⟩
    exact ⟨_, results_tmp2 rfl _ _ _, rfl, hB1.drew.trans (belowK_b (w := w) (Nat.le_refl _) W.drew D _ _ (by omega) hK rfl rfl)⟩
  case stop =>
    rintro D c pre W _ _ h _
    exact h.elim

end Go.Proofs.Ytgbnhfppnglamaa.Q3
