-- written by a program of this session (wip/myprint.py), over the kit's printer and the session's own contracts
import Derived.Test.YtnklnjghecmihaaH6x0
import Derived.Test.YtnklnjghecmihaaH6P0
import Derived.Test.YtnklnjghecmihaaH6x5
namespace Go.Proofs.Ytnklnjghecmihaa.H6
open Go.RowKit Go.Proofs.YtnklnjghecmihaaW.PrintWords Go.Proofs.YtnklnjghecmihaaW.PrintLast Go.Proofs.YtnklnjghecmihaaW.PrintMore Go.Proofs.YtnklnjghecmihaaW.Mine
attribute [local go_sem] max2_int min2_int max_two min_two max_three min_three max_four min_four max2_str min2_str binOp_gtr_str binOp_leq_str binOp_geq_str   -- for this text's walks alone
set_option linter.unusedVariables false
set_option linter.unusedSimpArgs false

/-- A state of type 104 at block g of W; what its slices lead to came in by w0. -/
def IsS104 (w0 W : World) (g : Nat) (f0 : ByteArray) : Prop := W.heap[g]? = some (.cells #[.string f0] 104 (0, 0)) ∧ w0.heap.size ≤ g
theorem IsS104.grown {w0 W : World} {g : Nat} {f0 : ByteArray} {W1 : World} {row : Option Nat} (h : IsS104 w0 W g f0) (hw : W.grownBy W1 row) (hne : some g ≠ row) : IsS104 w0 W1 g f0 := by
  (obtain ⟨hb, hg⟩ := h); (exact ⟨blk_grown hb hw hne, hg⟩)
theorem IsS104.own_neN {w0 W : World} {g : Nat} {f0 : ByteArray} {α : Type} {d : Kd α} {e : Nat} {base : Nat} {ok : Nat → Prop} {v : Value} {xs : List α} (h : IsS104 w0 W g f0) (ho : Kd.N d e W base ok v xs) (ht : e ≠ 104) : some g ≠ v.ownBlock := by
  (obtain ⟨hb, hg⟩ := h); (exact Kd.N_ne ho hb ht)
theorem IsS104.fresh {w0 W : World} {g : Nat} {f0 : ByteArray} (h : IsS104 w0 W g f0) : ∀ k, W.heap.size ≤ k → k ≠ g := by
  (obtain ⟨hb, hg⟩ := h); (exact Kd.freshB hb)
theorem IsS104.kept {w0 W : World} {g : Nat} {f0 : ByteArray} {W1 : World} {S : Nat → Prop} (h : IsS104 w0 W g f0) (hk : Kept W W1 S) (hne : ¬ S g) : IsS104 w0 W1 g f0 := by
  (obtain ⟨hb, hg⟩ := h); (exact ⟨blk_kept hb hk hne, hg⟩)
theorem IsS104.below {w0 W : World} {g : Nat} {f0 : ByteArray} {W1 : World} (h : IsS104 w0 W g f0) (hw : Below W.heap.size W W1) : IsS104 w0 W1 g f0 := h.grown (grown_of_below hw none) (by simp)
theorem IsS104.alloc {w0 W : World} {g : Nat} {f0 : ByteArray} (h : IsS104 w0 W g f0) (o : Obj) : IsS104 w0 (W.alloc o) g f0 := h.below (below_alloc (Below.refl _ _) o)
theorem IsS104.drewN {w0 W : World} {g : Nat} {f0 : ByteArray} (h : IsS104 w0 W g f0) (m : Nat) : IsS104 w0 (W.drewN m) g f0 := h
theorem IsS104.drew {w0 W : World} {g : Nat} {f0 : ByteArray} (h : IsS104 w0 W g f0) : IsS104 w0 W.drew g f0 := h
theorem IsS104.at_ {w0 W : World} {g : Nat} {f0 : ByteArray} {w' : World} {m : Nat} (hq : W.drewN m = w') (h : IsS104 w0 W g f0) : IsS104 w0 w' g f0 := by subst hq; exact IsS104.drewN h m
theorem IsS104.apart {w0 W : World} {g : Nat} {f0 : ByteArray} {α : Type} {d : Kd α} {e : Nat} {base : Nat} {ok : Nat → Prop} {v : Value} {xs : List α} (h : IsS104 w0 W g f0) (ho : d.R e W base ok v xs) (ht : ∀ q, q ∈ e :: d.E → q ≠ 104) : d.R e W base (fun k => ok k ∧ k ≠ g) v xs := by
  (obtain ⟨hb, hg⟩ := h); (exact Kd.R_types ho hb ht)
theorem IsS104.own_ne {w0 W : World} {g : Nat} {f0 : ByteArray} {α : Type} {d : Kd α} {e : Nat} {base : Nat} {ok : Nat → Prop} {v : Value} {xs : List α} (h : IsS104 w0 W g f0) (ho : d.R e W base ok v xs) (ht : e ≠ 104) : some g ≠ v.ownBlock := by
  (obtain ⟨hb, hg⟩ := h); (exact Kd.R_ne ho hb ht)
theorem IsS104.apartQ {w0 W : World} {g : Nat} {f0 : ByteArray} {α : Type} {d : Kd α} {e : Nat} {base : Nat} {ok : Nat → Prop} {v : Value} {xs : List α} (h : IsS104 w0 W g f0) (ho : d.Q e W base ok v xs) (ht : ∀ q, q ∈ e :: d.E → q ≠ 104) : d.Q e W base (fun k => ok k ∧ k ≠ g) v xs := by
  (obtain ⟨hb, hg⟩ := h); (exact Kd.Q_types ho hb ht)
theorem IsS104.own_neQ {w0 W : World} {g : Nat} {f0 : ByteArray} {α : Type} {d : Kd α} {e : Nat} {base : Nat} {ok : Nat → Prop} {v : Value} {xs : List α} (h : IsS104 w0 W g f0) (ho : d.Q e W base ok v xs) (ht : e ≠ 104) : some g ≠ v.ownBlock := by
  (obtain ⟨hb, hg⟩ := h); (exact Kd.Q_ne ho hb ht)
theorem IsS104.apartS {w0 W : World} {g : Nat} {f0 : ByteArray} {α : Type} {d : Kd α} {e : Nat} {base : Nat} {ok : Nat → Prop} {v : Value} {xs : List α} (h : IsS104 w0 W g f0) (ho : d.S e W base ok v xs) (ht : ∀ q, q ∈ e :: d.E → q ≠ 104) : d.S e W base (fun k => ok k ∧ k ≠ g) v xs := by
  (obtain ⟨hb, hg⟩ := h); (exact Kd.S_types ho hb ht)
theorem IsS104.own_neS {w0 W : World} {g : Nat} {f0 : ByteArray} {α : Type} {d : Kd α} {e : Nat} {base : Nat} {ok : Nat → Prop} {v : Value} {xs : List α} (h : IsS104 w0 W g f0) (ho : d.S e W base ok v xs) (ht : e ≠ 104) : some g ≠ v.ownBlock := by
  (obtain ⟨hb, hg⟩ := h); (exact Kd.S_ne ho hb ht)
theorem IsS104.lt {w0 W : World} {g : Nat} {f0 : ByteArray} (h : IsS104 w0 W g f0) : g < W.heap.size := by
  (obtain ⟨hb, hg⟩ := h); (exact blk_lt hb)
theorem IsS104.ge {w0 W : World} {g : Nat} {f0 : ByteArray} (h : IsS104 w0 W g f0) : w0.heap.size ≤ g := by
  (obtain ⟨hb, hg⟩ := h); (exact hg)
theorem IsS104.ne_blk {w0 W : World} {g : Nat} {f0 : ByteArray} {a : Nat} {cs : Array Value} {t : TypeId} {fr : Nat × Nat} (h : IsS104 w0 W g f0) (hb2 : W.heap[a]? = some (.cells cs t fr)) (ht : t ≠ 104) : g ≠ a := by
  (obtain ⟨hb, hg⟩ := h); (rintro rfl); (rw [hb] at hb2); (injection hb2 with hb2); (injection hb2 with _ ht2); (exact ht ht2.symm)
theorem IsS104.far {w0 W : World} {g : Nat} {f0 : ByteArray} {p : Addr} (h : IsS104 w0 W g f0) (hne : g ≠ p.block) (u : Value) : IsS104 w0 (W.setCell p u) g f0 := by
  (obtain ⟨hb, hg⟩ := h); (exact ⟨blk_far hb hne u, hg⟩)
theorem cellS104_0 {W : World} {g : Nat} {f0 : ByteArray} (h : W.heap[g]? = some (.cells #[.string f0] 104 (0, 0))) : W.cell? ⟨g, 0, none⟩ = some (.string f0) := (blk_cell h 0).trans rfl
theorem IsS104.set_0 {w0 W : World} {g : Nat} {f0 : ByteArray} (h : IsS104 w0 W g f0) (x : ByteArray) : IsS104 w0 (W.setCell ⟨g, 0, none⟩ (.string x)) g x := by
  (obtain ⟨hb, hg⟩ := h); (exact ⟨by simpa using blk_set hb 0 (.string x), hg⟩)
theorem IsS104.new (w0 W : World) (f0 : ByteArray) (hB : Below w0.heap.size w0 W) : IsS104 w0 (W.alloc (.cells #[.string f0] 104)) W.heap.size f0 := ⟨by simpa using heap_alloc_new W _, hB.size⟩

/-! ### block_reader_num: function 73 -/
def block_reader_num.f (k : Nat) (s0_0 : ByteArray) : Option (Int × ByteArray) := (word_TakeNum.f k s0_0).bind fun bt104 => ((block_must.f bt104.2.2).bind fun _ => (some (bt104.1, bt104.2.1)))
theorem block_reader_num.mono : ∀ a0 k, LeO (block_reader_num.f k a0) (block_reader_num.f (k + 1) a0) := by
  (intro a0 k); (unfold block_reader_num.f)
  repeat' first
      | (with_reducible exact word_TakeNum.mono _ _)
      | (with_reducible exact LeO.refl _)
      | (with_reducible exact LeO.none _)
      | (with_reducible refine LeO.ite ?_ ?_)
      | (with_reducible refine LeO.bind ?_ (fun _ => ?_))
      | exact word_TakeNum.mono _ _
      | exact LeO.none _
      | refine LeO.ite ?_ ?_
      | refine LeO.bind ?_ (fun _ => ?_)
set_option maxHeartbeats 8000000 in
set_option maxRecDepth 100000 in
theorem block_reader_num.calls (k : Nat) (g : Nat) (s0_0 : ByteArray) (r1 : Int) (r2 : ByteArray) (w0 w : World) (hI : IsS104 w0 w g s0_0) (hB : Below w0.heap.size w0 w) (h : block_reader_num.f k s0_0 = some (r1, r2)) :
    Calls Try.prog 73 #[.pointer (some ⟨g, 0, none⟩)] w fun e w' => e = .returned (.int .i64 r1) ∧ IsS104 w0 w' g r2 ∧ Below w0.heap.size w0 w' ∧ KeepBut w w' g none := by
  (have HI0 := Aside0.mk hI); (have HK := Aside0.mk (KeepBut.refl w g none)); (have HL := Aside0.mk hB.size); (clear hI); (have HW0 := Aside0.mk hB.size); (have HB := Aside0.mk hB); (clear hB); (have H : ((word_TakeNum.f k s0_0).bind fun bt104 => ((block_must.f bt104.2.2).bind fun _ => (some (bt104.1, bt104.2.1)))) = some (r1, r2) := h); (clear h); (replace H := Option.bind_eq_some_iff.mp H); (obtain ⟨⟨t104, t105, t106⟩, A20, H⟩ := H); (replace H : ((block_must.f t106).bind fun _ => (some (t104, t105))) = some (r1, r2) := H); (have A2 := Aside0.mk A20); (clear A20); (replace H := Option.bind_eq_some_iff.mp H); (obtain ⟨_, A30, H⟩ := H); (replace H : (some (t104, t105)) = some (r1, r2) := H); (have A3 := Aside0.mk A30); (clear A30); (simp only [Option.some.injEq, Prod.mk.injEq] at H); (obtain ⟨rfl, rfl⟩ := H); (obtain ⟨HGz4, hgz4⟩ := HI0.out); (have hcz4_0 := cellS104_0 HGz4); (have hfz4_0 := blk_frozen HGz4 0); (clear HGz4 hgz4); (go_enter Try.func73, Try.ntmps73)
  go_wp2_with (first | ((with_reducible refine gate_callee (f := 124) rfl ?_); refine goesL_ (some 11) rfl rfl Try.func124 (by kernel_rfl) rfl #[.string s0_0] rfl (by (try simp only [List.map_toArray, List.map_cons, List.map_nil]); first | done | rfl | (simp only [List.length_drop, List.length_take]; rfl)) ?_; (with_reducible refine (word_TakeNum.calls k s0_0 t104 t105 t106 _ A2.out).mono ?_); rintro e w' ⟨rfl, ⟨nd, rfl⟩⟩; refine ⟨_, rfl, ?_⟩; skip) | ((with_reducible refine gate_callee (f := 75) rfl ?_); refine goesL_ (some 16) rfl rfl Try.func75 (by kernel_rfl) rfl #[.int .i64 t106] rfl (by (try simp only [List.map_toArray, List.map_cons, List.map_nil]); first | done | rfl | (simp only [List.length_drop, List.length_take]; rfl)) ?_; (with_reducible refine (block_must.calls t106  _ A3.out).mono ?_); rintro e w' ⟨rfl, ⟨nd, rfl⟩⟩; refine ⟨_, rfl, ?_⟩; skip))
  (go_ret); (exact ⟨by first | rfl | (simp [errW_none, errW_some] <;> rfl) | (simp [*, errW_none, errW_some] <;> rfl), by repeat (first | (with_reducible first | exact HI0.out | apply IsS104.alloc | apply IsS104.drewN | apply IsS104.drew | apply IsS104.set_0) | exact HI0.out), by repeat (first | (with_reducible first | exact HB.out | apply y1_ | apply y2_ | apply y3_ | refine y4_ ?_ (IsS104.ge HI0.out)) | exact HB.out), by repeat (first | (with_reducible first | exact HK.out | apply KeepBut.set_ | apply keep_drewN | apply keep_drew | apply keep_alloc) | exact HK.out)⟩)

end Go.Proofs.Ytnklnjghecmihaa.H6
