/- An arena in memory: its block and the row of its places; what a store does to it. Over any program. No condition. -/
import Derived.Test.YtpfikmchimlneaaSl2
set_option linter.unusedVariables false
set_option linter.unusedSimpArgs false
namespace Go.Proofs.YtpfikmchimlneaaW.Ar
open Go.RowKit Go.Proofs.YtpfikmchimlneaaW.PrintWords Go.Proofs.YtpfikmchimlneaaW.PrintWords.Kd Go.Proofs.YtpfikmchimlneaaW.Sl
/-- what an arena is, as data -/
structure St (α : Type) where
  cells : List (α × Bool × Int)
  free : Int
  used : Int
  most : Int
/-- one place is taken -/
def take1 {α : Type} (s : St α) (x : α) : Option (St α × Int) :=
  if 0 ≤ s.used ∧ s.used < 1000000 ∧ s.cells.length < 1000000 then
    if 0 < s.free then
      match s.cells[(s.free - 1).toNat]? with
      | none => none
      | some c => some ({ s with cells := s.cells.set (s.free - 1).toNat (x, true, 0), free := c.2.2, used := s.used + 1 }, s.free)
    else some ({ s with cells := s.cells ++ [(x, true, 0)], used := s.used + 1 }, (s.cells.length : Int) + 1)
  else none
def many {α : Type} : Nat → St α → α → Option (St α × List Int)
  | 0, s, _ => some (s, [])
  | n + 1, s, x => (take1 s x).bind fun p => (many n p.1 x).map fun q => (q.1, p.2 :: q.2)
/-- is the place taken? -/
def St.has {α : Type} (s : St α) (i : Int) : Bool := decide (1 ≤ i) && decide (i ≤ (s.cells.length : Int)) && (match s.cells[(i - 1).toNat]? with | some c => c.2.1 | none => false)
def kc {α : Type} (enc : α → Value) (h1 : ∀ x, (enc x).oneCell' = true) : Kd (α × Bool × Int) := Kd.pair (Kd.scalar enc h1) (Kd.pair Kd.bool (Kd.int .i64))
section
variable {α : Type} {enc : α → Value} {h1 : ∀ x, (enc x).oneCell' = true}
theorem kc_flat : Flat (kc enc h1) := flat_pair (flat_scalar _ _) (flat_pair flat_bool (flat_int _))
theorem kc_sz : (kc enc h1).sz = 3 := rfl
theorem kc_E : (kc enc h1).E = [] := rfl
theorem kc_open {w : World} {x : α × Bool × Int} {cs : List Value} (h : (kc enc h1).K w x cs) : cs = [enc x.1, .bool x.2.1, .int .i64 x.2.2] := by
  obtain ⟨c0, c1, rfl, h0, c2, c3, rfl, h2, h3⟩ := h
  simp only [Kd.scalar, Kd.bool, Kd.int] at h0 h2 h3
  subst h0 h2 h3
  rfl
theorem kc_mk (w : World) (x : α × Bool × Int) : (kc enc h1).K w x [enc x.1, .bool x.2.1, .int .i64 x.2.2] := ⟨[enc x.1], [.bool x.2.1, .int .i64 x.2.2], rfl, rfl, [.bool x.2.1], [.int .i64 x.2.2], rfl, rfl, rfl⟩
theorem kc_mkM (w : World) (b : Nat) (ok : Nat → Prop) (x : α × Bool × Int) : (kc enc h1).M w b ok x [enc x.1, .bool x.2.1, .int .i64 x.2.2] := kc_flat _ _ _ _ _ (kc_mk w x)
theorem R_tight {d : Kd α} (hd : Flat d) {e base : Nat} {w : World} {ok : Nat → Prop} {v : Value} {xs : List α} (h : d.R e w base ok v xs) : d.R e w base (fun k => v.ownBlock = some k) v xs := by
  obtain ⟨_, inner, ho, hr⟩ := h
  exact ⟨fun k hk => hk, inner, ho, hr.imp_ (fun _ _ hp => hd.of_M hp _ _ _)⟩
/-- the arena lies in block g; its row is v -/
structure At (enc : α → Value) (h1 : ∀ x, (enc x).oneCell' = true) (T e : TypeId) (B : Nat) (W : World) (g : Nat) (v : Value) (s : St α) : Prop where
  hg : B ≤ g
  blk : W.heap[g]? = some (.cells #[v, .int .i64 s.free, .int .i64 s.used, .int .i64 s.most] T (0, 0))
  row : (kc enc h1).R e W B (fun _ => True) v s.cells
  nil : s.cells = [] → v = .slice none 0 0
/-- nothing that lay there has changed but the block g and the row r -/
structure Only (g : Nat) (r : Option Nat) (W W' : World) : Prop where
  os : W'.os = W.os
  tape : W'.tape = W.tape
  output : W'.output = W.output
  size : W.heap.size ≤ W'.heap.size
  block : ∀ k, k < W.heap.size → k ≠ g → some k ≠ r → W'.heap[k]? = W.heap[k]?
variable {T e B g : Nat} {W W' W2 : World} {v v' : Value} {s s' : St α}
theorem Only.refl (g : Nat) (r : Option Nat) (W : World) : Only g r W W := ⟨rfl, rfl, rfl, Nat.le_refl _, fun _ _ _ _ => rfl⟩
theorem Only.of_below {r : Option Nat} (h : Below W.heap.size W W') : Only g r W W' := ⟨h.os, h.tape, h.output, h.size, fun k hk _ _ => h.block k hk⟩
theorem Only.of_grown {r : Option Nat} (h : W.grownBy W' (some g)) : Only g r W W' := ⟨h.os, h.tape, h.output, h.size, fun k hk hg _ => h.block k hk (by simpa using hg)⟩
theorem Only.of_row {r : Option Nat} (h : W.grownBy W' r) : Only g r W W' := ⟨h.os, h.tape, h.output, h.size, fun k hk _ hr => h.block k hk hr⟩
/-- the row of places is where it was, or new -/
def Same (W : World) (v v' : Value) : Prop := v'.ownBlock = v.ownBlock ∨ ∃ b, v'.ownBlock = some b ∧ W.heap.size ≤ b
theorem Same.refl (W : World) (v : Value) : Same W v v := .inl rfl
theorem Same.mono {v v' : Value} (h : Same W' v v') (hs : W.heap.size ≤ W'.heap.size) : Same W v v' := h.imp id (fun ⟨b, h1, h2⟩ => ⟨b, h1, Nat.le_trans hs h2⟩)
theorem Same.trans {v v' v2 : Value} (h : Same W v v') (k : Same W v' v2) : Same W v v2 := by
  rcases k with k | k
  · rcases h with h | ⟨b, h1, h2⟩
    · exact .inl (k.trans h)
    · exact .inr ⟨b, k.trans h1, h2⟩
  · exact .inr k
theorem Only.trans {W2 : World} (h : Only g v.ownBlock W W') (hs : Same W v v') (k : Only g v'.ownBlock W' W2) : Only g v.ownBlock W W2 :=
  ⟨k.os.trans h.os, k.tape.trans h.tape, k.output.trans h.output, Nat.le_trans h.size k.size, fun j hj hg hr => (k.block j (Nat.lt_of_lt_of_le hj h.size) hg (by
    rcases hs with hs | ⟨b, h1, h2⟩
    · rw [hs]; exact hr
    · rw [h1]; intro e; injection e with e; omega)).trans (h.block j hj hg hr)⟩
/-- seen from below -/
theorem Only.below {r : Option Nat} (h : Only g r W W') {B : Nat} (hB : B ≤ g) (hr : ∀ k, r = some k → B ≤ k) (hw : B ≤ W.heap.size) : Below B W W' :=
  ⟨h.os, h.tape, h.output, h.size, fun k hk => h.block k (Nat.lt_of_lt_of_le hk hw) (by omega) (fun e => by have := hr k e.symm; omega)⟩
theorem At.lt (h : At enc h1 T e B W g v s) : g < W.heap.size := blk_lt h.blk
theorem At.rlt (h : At enc h1 T e B W g v s) : ∀ k, v.ownBlock = some k → k < W.heap.size := R_lt h.row
theorem At.rbase (h : At enc h1 T e B W g v s) : ∀ k, v.ownBlock = some k → B ≤ k := R_base h.row
theorem At.ne (h : At enc h1 T e B W g v s) (hT : T ≠ e) : some g ≠ v.ownBlock := R_ne h.row h.blk (fun e => hT e.symm)
theorem At.below (h : At enc h1 T e B W g v s) {b : Nat} (hb : Only g v.ownBlock W W') (hB : b ≤ B) (hw : b ≤ W.heap.size) : Below b W W' := hb.below (Nat.le_trans hB h.hg) (fun k hk => Nat.le_trans hB (h.rbase k hk)) hw
theorem At.move (h : At enc h1 T e B W g v s) (hg : W'.heap[g]? = W.heap[g]?) (hr : ∀ k, v.ownBlock = some k → W'.heap[k]? = W.heap[k]?) : At enc h1 T e B W' g v s :=
  ⟨h.hg, hg.trans h.blk, R_mono (R_move (R_tight kc_flat h.row) hr) (fun _ _ => trivial), h.nil⟩
theorem At.keep (h : At enc h1 T e B W g v s) (hb : Below W.heap.size W W') : At enc h1 T e B W' g v s := h.move (hb.block _ h.lt) (fun k hk => hb.block k (h.rlt k hk))
/-- another arena has changed -/
theorem At.other {g2 : Nat} {r : Option Nat} (h : At enc h1 T e B W g v s) (hb : Only g2 r W W') (h2 : g ≠ g2) (h3 : some g ≠ r) (h4 : some g2 ≠ v.ownBlock) (h5 : ∀ k, v.ownBlock = some k → some k ≠ r) : At enc h1 T e B W' g v s :=
  h.move (hb.block _ h.lt h2 h3) (fun k hk => hb.block k (h.rlt k hk) (fun e => h4 (by rw [hk, e])) (h5 k hk))
theorem At.grown {r : Option Nat} (h : At enc h1 T e B W g v s) (hb : W.grownBy W' r) (h2 : some g ≠ r) (h5 : ∀ k, v.ownBlock = some k → some k ≠ r) : At enc h1 T e B W' g v s :=
  h.move (hb.block _ h.lt h2) (fun k hk => hb.block k (h.rlt k hk) (h5 k hk))
theorem At.c0 (h : At enc h1 T e B W g v s) : W.cell? ⟨g, 0, none⟩ = some v := (blk_cell h.blk 0).trans rfl
theorem At.c1 (h : At enc h1 T e B W g v s) : W.cell? ⟨g, 1, none⟩ = some (.int .i64 s.free) := (blk_cell h.blk 1).trans rfl
theorem At.c2 (h : At enc h1 T e B W g v s) : W.cell? ⟨g, 2, none⟩ = some (.int .i64 s.used) := (blk_cell h.blk 2).trans rfl
theorem At.c3 (h : At enc h1 T e B W g v s) : W.cell? ⟨g, 3, none⟩ = some (.int .i64 s.most) := (blk_cell h.blk 3).trans rfl
theorem At.fz (h : At enc h1 T e B W g v s) (i : Nat) : W.frozen? ⟨g, i, none⟩ = false := blk_frozen h.blk i
theorem kc_ne (hT : T ≠ e) : ∀ q, q ∈ e :: (kc enc h1).E → q ≠ T := by
  intro q hq
  rw [kc_E] at hq
  rw [List.mem_singleton.1 hq]
  exact fun h => hT h.symm
theorem At.free (h : At enc h1 T e B W g v s) (hT : T ≠ e) (x : Int) : At enc h1 T e B (W.setCell ⟨g, 1, none⟩ (.int .i64 x)) g v { s with free := x } :=
  ⟨h.hg, blk_put h.blk 1 _ rfl, R_set h.row h.blk (kc_ne hT) 1 _, h.nil⟩
theorem At.used (h : At enc h1 T e B W g v s) (hT : T ≠ e) (x : Int) : At enc h1 T e B (W.setCell ⟨g, 2, none⟩ (.int .i64 x)) g v { s with used := x } :=
  ⟨h.hg, blk_put h.blk 2 _ rfl, R_set h.row h.blk (kc_ne hT) 2 _, h.nil⟩
/-- another row stands for the places -/
theorem At.rows (hg : B ≤ g) {a b c : Value} (hb : W.heap[g]? = some (.cells #[v', .int .i64 s.free, .int .i64 s.used, .int .i64 s.most] T (0, 0))) {xs : List (α × Bool × Int)} (h : (kc enc h1).R e W B (fun _ => True) v xs) (hT : T ≠ e) (hn : xs = [] → v = .slice none 0 0) : At enc h1 T e B (W.setCell ⟨g, 0, none⟩ v) g v { s with cells := xs } :=
  ⟨hg, blk_put hb 0 _ rfl, R_set h hb (kc_ne hT) 0 _, hn⟩
theorem set_grown (W : World) (g i : Nat) (u : Value) : W.grownBy (W.setCell ⟨g, i, none⟩ u) (some g) := setCells_grown W g i [u]
/-- the place i, where there is one -/
theorem At.elem (h : At enc h1 T e B W g v s) (z : α × Bool × Int) (i : Nat) (hi : i < s.cells.length) : ∃ gc c, v = .slice (some ⟨gc, 0, none⟩) s.cells.length c ∧ s.cells.length ≤ c ∧ B ≤ gc ∧ gc < W.heap.size ∧
    W.cell? ⟨gc, i * 3, none⟩ = some (enc (s.cells.getD i z).1) ∧ W.cell? ⟨gc, i * 3 + 1, none⟩ = some (.bool (s.cells.getD i z).2.1) ∧ W.cell? ⟨gc, i * 3 + 2, none⟩ = some (.int .i64 (s.cells.getD i z).2.2) ∧ ∀ j, W.frozen? ⟨gc, i * 3 + j, none⟩ = false := by
  have hr := h.row
  obtain ⟨gc, c, rfl, hb, hl, _⟩ := R_form hr (by omega)
  obtain ⟨hn, hnc, _⟩ := R_reads' hr
  obtain ⟨cs, hcl, hM, hcc, hf⟩ := R_elem hr z (i : Int) (by omega) (by omega)
  rw [Int.toNat_natCast, kc_sz] at hcc hf
  rw [Int.toNat_natCast] at hM
  obtain rfl := kc_open ((kc enc h1).K_of_M hM)
  exact ⟨gc, c, rfl, hnc, hb, hl, hcc 0 _ rfl, hcc 1 _ rfl, hcc 2 _ rfl, hf⟩
/-- a place is stored whole -/
theorem At.put {gc n c : Nat} (h : At enc h1 T e B W g (.slice (some ⟨gc, 0, none⟩) n c) s) (hT : T ≠ e) (i : Nat) (hi : i < s.cells.length) (x : α × Bool × Int) :
    At enc h1 T e B (((W.setCell ⟨gc, i * 3, none⟩ (enc x.1)).setCell ⟨gc, i * 3 + 1, none⟩ (.bool x.2.1)).setCell ⟨gc, i * 3 + 2, none⟩ (.int .i64 x.2.2)) g (.slice (some ⟨gc, 0, none⟩) n c) { s with cells := s.cells.set i x } ∧
    W.grownBy (((W.setCell ⟨gc, i * 3, none⟩ (enc x.1)).setCell ⟨gc, i * 3 + 1, none⟩ (.bool x.2.1)).setCell ⟨gc, i * 3 + 2, none⟩ (.int .i64 x.2.2)) (some gc) := by
  have hr := h.row
  obtain ⟨hn, hnc, _⟩ := R_reads' hr
  obtain ⟨cs, hcl, hM, hcc, hf⟩ := R_elem hr (x) (i : Int) (by omega) (by omega)
  obtain ⟨h2, h3⟩ := R_seg hr (i : Int) (by omega) (by omega) (seg := [enc x.1, .bool x.2.1, .int .i64 x.2.2]) (j := 0) hcl hcc (show 3 ≤ 3 from by decide) (x' := x) (okp := fun _ => False) (by
    have : cs.length = 3 := hcl
    rw [List.take_zero, List.drop_eq_nil_of_le (by simp; omega)]
    exact kc_mkM _ _ _ _) (fun _ hk => hk.elim)
  rw [Int.toNat_natCast, kc_sz] at h2 h3
  have hne := h.ne hT
  refine ⟨⟨h.hg, ?_, h2, fun hh => ?_⟩, h3⟩
  · have := h3.block g h.lt (by intro e; exact hne (by rw [e]; rfl))
    exact this.trans h.blk
  · have h9 : s.cells.set i x = [] := hh
    have := congrArg List.length h9
    rw [List.length_set, List.length_nil] at this
    omega
/-- what a place holds is stored -/
theorem At.val {gc n c : Nat} (h : At enc h1 T e B W g (.slice (some ⟨gc, 0, none⟩) n c) s) (hT : T ≠ e) (i : Nat) (hi : i < s.cells.length) (z : α × Bool × Int) (y : α) :
    At enc h1 T e B (W.setCell ⟨gc, i * 3, none⟩ (enc y)) g (.slice (some ⟨gc, 0, none⟩) n c) { s with cells := s.cells.set i (y, (s.cells.getD i z).2) } ∧
    W.grownBy (W.setCell ⟨gc, i * 3, none⟩ (enc y)) (some gc) := by
  have hr := h.row
  obtain ⟨hn, hnc, _⟩ := R_reads' hr
  obtain ⟨cs, hcl, hM, hcc, hf⟩ := R_elem hr z (i : Int) (by omega) (by omega)
  rw [Int.toNat_natCast] at hM
  have hcs := kc_open ((kc enc h1).K_of_M hM)
  obtain ⟨h2, h3⟩ := R_seg hr (i : Int) (by omega) (by omega) (seg := [enc y]) (j := 0) hcl hcc (show 1 ≤ 3 from by decide) (x' := (y, (s.cells.getD i z).2)) (okp := fun _ => False) (by
    rw [hcs]
    exact kc_mkM _ _ _ (y, (s.cells.getD i z).2)) (fun _ hk => hk.elim)
  rw [Int.toNat_natCast, kc_sz] at h2 h3
  have hne := h.ne hT
  refine ⟨⟨h.hg, ?_, h2, fun hh => ?_⟩, h3⟩
  · have := h3.block g h.lt (by intro e; exact hne (by rw [e]; rfl))
    exact this.trans h.blk
  · have h9 : s.cells.set i (y, (s.cells.getD i z).2) = [] := hh
    have := congrArg List.length h9
    rw [List.length_set, List.length_nil] at this
    omega
theorem Only.own {r row : Option Nat} (h : Only g r W W') (hg : W'.grownBy W2 row) (hr : ∀ k, row = some k → W.heap.size ≤ k) : Only g r W W2 :=
  ⟨hg.os.trans h.os, hg.tape.trans h.tape, hg.output.trans h.output, Nat.le_trans h.size hg.size, fun k hk h2 h3 => (hg.block k (Nat.lt_of_lt_of_le hk h.size) (fun e => by have := hr k e.symm; omega)).trans (h.block k hk h2 h3)⟩
/-- a row of another type stays -/
theorem At.rowOf {β : Type} {d : Kd β} {f base : Nat} {ok : Nat → Prop} {u : Value} {ys : List β} (h : At enc h1 T e B W g v s) (ho : Only g v.ownBlock W W') (hu : d.R f W base ok u ys) (hT : ∀ q, q ∈ f :: d.E → q ≠ T) (he : ∀ q, q ∈ f :: d.E → q ≠ e) : d.R f W' base ok u ys := by
  refine R_mono (R_move (R_bound hu) (fun k hk => ho.block k hk.2.2.1 (fun e0 => ?_) (fun e0 => ?_))) (fun _ hk => hk.1)
  · obtain ⟨_, _, _, q, hq, cells, hc⟩ := hk
    subst e0
    rw [h.blk] at hc
    injection hc with hc
    injection hc with _ hc
    exact hT q hq hc.symm
  · obtain ⟨_, _, _, q, hq, cells, hc⟩ := hk
    obtain ⟨cells', hc'⟩ := R_typed h.row k e0.symm
    rw [hc] at hc'
    injection hc' with hc'
    injection hc' with _ hc'
    exact he q hq hc'
/-- a place that was given back is taken: behind the four stores -/
theorem At.taken {gc c : Nat} (h : At enc h1 T e B W g (.slice (some ⟨gc, 0, none⟩) s.cells.length c) s) (hT : T ≠ e) (i : Nat) (hi : i < s.cells.length) (nx us : Int) (x : α) :
    At enc h1 T e B (((((W.setCell ⟨g, 1, none⟩ (.int .i64 nx)).setCell ⟨gc, i * 3, none⟩ (enc x)).setCell ⟨gc, i * 3 + 1, none⟩ (.bool true)).setCell ⟨gc, i * 3 + 2, none⟩ (.int .i64 0)).setCell ⟨g, 2, none⟩ (.int .i64 us)) g (.slice (some ⟨gc, 0, none⟩) s.cells.length c) { s with cells := s.cells.set i (x, true, 0), free := nx, used := us } ∧
    Only g (some gc) W (((((W.setCell ⟨g, 1, none⟩ (.int .i64 nx)).setCell ⟨gc, i * 3, none⟩ (enc x)).setCell ⟨gc, i * 3 + 1, none⟩ (.bool true)).setCell ⟨gc, i * 3 + 2, none⟩ (.int .i64 0)).setCell ⟨g, 2, none⟩ (.int .i64 us)) := by
  have h2 := h.free hT nx
  obtain ⟨h3, h4⟩ := h2.put hT i hi (x, true, 0)
  refine ⟨h3.used hT us, ?_⟩
  exact ((Only.of_grown (set_grown _ _ _ _)).trans (v := .slice (some ⟨gc, 0, none⟩) s.cells.length c) (.refl _ _) (Only.of_row h4)).trans (v := .slice (some ⟨gc, 0, none⟩) s.cells.length c) (.refl _ _) (.of_grown (set_grown _ _ _ _))
/-- a new place is taken: behind the append -/
theorem At.grew (h : At enc h1 T e B W g v s) (hT : T ≠ e) {w1 : World} {v1 : Value} {z : α × Bool × Int} (hR : (kc enc h1).R e w1 B (fun _ => True) v1 (s.cells ++ [z])) (hg : W.grownBy w1 v.ownBlock) (hat : v1.ownBlock = v.ownBlock ∨ ∃ b, v1.ownBlock = some b ∧ W.heap.size ≤ b) (us : Int) (x : α) :
    ∃ gc c, v1 = .slice (some ⟨gc, 0, none⟩) (s.cells.length + 1) c ∧ s.cells.length + 1 ≤ c ∧ gc ≠ g ∧
      w1.heap[g]? = some (.cells #[v, .int .i64 s.free, .int .i64 s.used, .int .i64 s.most] T (0, 0)) ∧
      w1.cell? ⟨gc, s.cells.length * 3, none⟩ = some (enc z.1) ∧ w1.cell? ⟨gc, s.cells.length * 3 + 1, none⟩ = some (.bool z.2.1) ∧ w1.cell? ⟨gc, s.cells.length * 3 + 2, none⟩ = some (.int .i64 z.2.2) ∧
      (∀ j, w1.frozen? ⟨gc, s.cells.length * 3 + j, none⟩ = false) ∧
      At enc h1 T e B (((((w1.setCell ⟨g, 0, none⟩ v1).setCell ⟨gc, s.cells.length * 3, none⟩ (enc x)).setCell ⟨gc, s.cells.length * 3 + 1, none⟩ (.bool true)).setCell ⟨gc, s.cells.length * 3 + 2, none⟩ (.int .i64 0)).setCell ⟨g, 2, none⟩ (.int .i64 us)) g v1 { s with cells := s.cells ++ [(x, true, 0)], used := us } ∧
      Only g v.ownBlock W (((((w1.setCell ⟨g, 0, none⟩ v1).setCell ⟨gc, s.cells.length * 3, none⟩ (enc x)).setCell ⟨gc, s.cells.length * 3 + 1, none⟩ (.bool true)).setCell ⟨gc, s.cells.length * 3 + 2, none⟩ (.int .i64 0)).setCell ⟨g, 2, none⟩ (.int .i64 us)) ∧ Same W v v1 := by
  have hne := h.ne hT
  have hb : w1.heap[g]? = some (.cells #[v, .int .i64 s.free, .int .i64 s.used, .int .i64 s.most] T (0, 0)) := (hg.block g h.lt hne).trans h.blk
  obtain ⟨gc, c, rfl, hbc, hlt, cells1, hc1⟩ := R_form hR (by simp)
  rw [List.length_append, List.length_singleton] at hR hat ⊢
  obtain ⟨hn, hnc, _⟩ := R_reads' hR
  obtain ⟨cs, hcl, hM, hcc, hf⟩ := R_elem hR z (s.cells.length : Int) (by omega) (by omega)
  rw [Int.toNat_natCast, kc_sz] at hcc hf
  rw [Int.toNat_natCast] at hM
  obtain rfl := kc_open ((kc enc h1).K_of_M hM)
  have hz : (s.cells ++ [z]).getD s.cells.length z = z := by simp [List.getD_eq_getElem?_getD]
  rw [hz] at hcc
  have hgc : gc ≠ g := fun e0 => blk_ne hc1 hb (fun e1 => hT e1.symm) e0
  have hA1 : At enc h1 T e B (w1.setCell ⟨g, 0, none⟩ (.slice (some ⟨gc, 0, none⟩) (s.cells.length + 1) c)) g (.slice (some ⟨gc, 0, none⟩) (s.cells.length + 1) c) { s with cells := s.cells ++ [z] } :=
    At.rows (a := v) (b := v) (c := v) h.hg hb hR hT (fun hh => by simp at hh)
  obtain ⟨h3, h4⟩ := hA1.put hT s.cells.length (by simp) (x, true, 0)
  have h5 := h3.used hT us
  have hset : (s.cells ++ [z]).set s.cells.length (x, true, 0) = s.cells ++ [(x, true, 0)] := by simp
  rw [hset] at h5
  refine ⟨gc, c, rfl, hnc, hgc, hb, hcc 0 _ rfl, hcc 1 _ rfl, hcc 2 _ rfl, hf, h5, ?_, hat⟩
  have hO1 : Only g v.ownBlock W w1 := .of_row hg
  have hO2 := hO1.trans (v := v) (v' := .slice (some ⟨gc, 0, none⟩) (s.cells.length + 1) c) hat (.of_grown (set_grown w1 g 0 (.slice (some ⟨gc, 0, none⟩) (s.cells.length + 1) c)))
  exact (hO2.trans hat (Only.of_row h4)).trans hat (.of_grown (set_grown _ _ _ _))
/-- a row of another type has grown -/
theorem At.grownR {β : Type} {d : Kd β} {f base : Nat} {ok : Nat → Prop} {u : Value} {ys : List β} (h : At enc h1 T e B W g v s) (hu : d.R f W base ok u ys) (hT : f ≠ T) (he : f ≠ e) (hg : W.grownBy W' u.ownBlock) : At enc h1 T e B W' g v s :=
  h.grown hg (R_ne hu h.blk hT) (fun k hk => by obtain ⟨cells, hc⟩ := R_typed h.row k hk; exact R_ne hu hc he)
end
end Go.Proofs.YtpfikmchimlneaaW.Ar
