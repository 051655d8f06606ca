-- written by a program of this session (wip/myprint.py), over the kit's printer and the session's own contracts
import Derived.Test.YtnklnjghecmihaaH5x0
import Derived.Test.YtnklnjghecmihaaH5x6
import Derived.Test.YtnklnjghecmihaaH5x10
namespace Go.Proofs.Ytnklnjghecmihaa.H5
open Go.RowKit Go.Proofs.YtnklnjghecmihaaW.PrintWords Go.Proofs.YtnklnjghecmihaaW.PrintLast Go.Proofs.YtnklnjghecmihaaW.PrintMore Go.Proofs.YtnklnjghecmihaaW.Mine
attribute [local go_sem] max2_int min2_int max_two min_two max_three min_three max_four min_four max2_str min2_str binOp_gtr_str binOp_leq_str binOp_geq_str   -- for this text's walks alone
set_option linter.unusedVariables false
set_option linter.unusedSimpArgs false

/-! ### block_Unpack: function 17 -/
set_option maxHeartbeats 2000000 in
set_option maxRecDepth 100000 in
/-- The deferred closure of a frame that returns finds nothing. -/
theorem block_Unpack.idle (p q : Addr) (w : World) :
    CallsD Try.prog 72 #[.pointer (some p), .pointer (some q)] .returning w fun e u' w' => e = .returned (.tuple #[]) ∧ u' = .returning ∧ w' = w := by
  have hnil : ∀ w : World, Sem.run Try.prog (binOp BinOp.neq 20 .nilIface .nilIface) w = .ok (.bool false) w := fun _ => by kernel_rfl
  refine callsD_of_wpS Try.func72 rfl fun c₀ cs hu => ?_
  apply wpS_seq
  apply wpS_region
  simp [wpOpsS, go_sem, recoverD, hu, Try.ntmps72, Exit.thenS]
  apply wpS_seq
  apply wpS_region
  simp [wpOpsS, go_sem, Exit.thenS, hnil]
  refine wpS_cond (t := false) (by simp [Act.eval, Array.replicate]) ?_
  simp only [Bool.false_eq_true, if_false]
  refine wpS_of_wp (wp_skip ?_)
  cases c₀
  simp_all [bodyPostS, results, Try.results72]
def block_Unpack.go (k : Nat) : Nat → Bool → ByteArray → ByteArray → List S25 → Option (List S25 × ByteArray)
  | 0, _, rest, _, acc => some (acc, rest)
  | m + 1, first, rest, last, acc => (block_reader_entry.f k rest last first).bind fun t => if acc.length < 1000000 then block_Unpack.go k m false t.2.2 t.1 (acc ++ [⟨t.1, t.2.1⟩]) else none
def block_Unpack.f0 (k : Nat) (s : ByteArray) : Option (List S25) := (block_reader_num.f k s).bind fun t => if t.1 ≤ 1000000 then (block_Unpack.go k t.1.toNat true t.2 ⟨#[]⟩ []).bind fun u => if u.2.toList = [] then some u.1 else none else none
/-- what the walk keeps: the boxes of the results and of the reader, the row that is made -/
structure block_Unpack.St (w W : World) (v : Value) (acc : List S25) (rest : ByteArray) : Prop where
  out : W.heap[w.heap.size]? = some (.cells #[v] 22 (0, 0))
  err : W.heap[w.heap.size + 1]? = some (.cells #[.int .i64 0] 27 (0, 0))
  rd : IsS104 w W (w.heap.size + 1 + 1) rest
  row : Kd.R k25 25 W w.heap.size (fun q => q ≠ w.heap.size ∧ q ≠ w.heap.size + 1 ∧ q ≠ w.heap.size + 1 + 1) v acc
  low : Below w.heap.size w W
theorem block_Unpack.St.first (w : World) (s : ByteArray) : block_Unpack.St w (((w.alloc (.cells #[.slice none 0 0] 22)).alloc (.cells #[.int .i64 0] 27)).alloc (.cells #[.string s] 104)) (.slice none 0 0) [] s := by
  have h1 := heap_alloc_new w (.cells #[.slice none 0 0] 22)
  have h2 := heap_alloc_new (w.alloc (.cells #[.slice none 0 0] 22)) (.cells #[.int .i64 0] 27)
  have h3 := heap_alloc_new ((w.alloc (.cells #[.slice none 0 0] 22)).alloc (.cells #[.int .i64 0] 27)) (.cells #[.string s] 104)
  have e1 : (w.alloc (.cells #[.slice none 0 0] 22)).heap.size = w.heap.size + 1 := by simp
  have e2 : ((w.alloc (.cells #[.slice none 0 0] 22)).alloc (.cells #[.int .i64 0] 27)).heap.size = w.heap.size + 1 + 1 := by simp
  rw [e1] at h2
  rw [e2] at h3
  exact ⟨z3_ (z3_ h1 _) _, z3_ h2 _, ⟨h3, by omega⟩, Kd.R_nil _ _ _ _ _, y1_ (y1_ (y1_ (Below.refl _ _) _) _) _⟩
theorem block_Unpack.St.call {w W W' : World} {v : Value} {acc : List S25} {rest rest' : ByteArray} (h : block_Unpack.St w W v acc rest) (hI : IsS104 w W' (w.heap.size + 1 + 1) rest') (hB : Below w.heap.size w W') (hK : KeepBut W W' (w.heap.size + 1 + 1) none) : block_Unpack.St w W' v acc rest' :=
  ⟨hK.blk h.out (by omega) (by simp), hK.blk h.err (by omega) (by simp), hI, Kd.R_keep h.row hK (fun _ hk => hk.2.2), hB⟩
theorem block_Unpack.St.below {w W W' : World} {v : Value} {acc : List S25} {rest : ByteArray} (h : block_Unpack.St w W v acc rest) (hB : Below W.heap.size W W') : block_Unpack.St w W' v acc rest :=
  ⟨(hB.block _ (blk_lt h.out)).trans h.out, (hB.block _ (blk_lt h.err)).trans h.err, h.rd.below hB, Kd.R_below h.row hB, below_step h.low hB⟩
theorem block_Unpack.St.fresh {w W : World} {v : Value} {acc : List S25} {rest : ByteArray} (h : block_Unpack.St w W v acc rest) (q : Nat) (hq : W.heap.size ≤ q) : q ≠ w.heap.size ∧ q ≠ w.heap.size + 1 ∧ q ≠ w.heap.size + 1 + 1 := by
  have h1 := blk_lt h.rd.1
  omega
theorem block_Unpack.St.grown {w W W' : World} {v v' : Value} {acc acc' : List S25} {rest : ByteArray} (h : block_Unpack.St w W v acc rest) (hg : W.grownBy W' v.ownBlock) (hr : Kd.R k25 25 W' w.heap.size (fun q => q ≠ w.heap.size ∧ q ≠ w.heap.size + 1 ∧ q ≠ w.heap.size + 1 + 1) v' acc') (hB : Below w.heap.size w W') : block_Unpack.St w (W'.setCell ⟨w.heap.size, 0, none⟩ v') v' acc' rest := by
  have n0 : some w.heap.size ≠ v.ownBlock := fun e => (h.row.1 _ e.symm).1 rfl
  have n1 : some (w.heap.size + 1) ≠ v.ownBlock := fun e => (h.row.1 _ e.symm).2.1 rfl
  have n2 : some (w.heap.size + 1 + 1) ≠ v.ownBlock := fun e => (h.row.1 _ e.symm).2.2 rfl
  have g0 := blk_grown h.out hg n0
  have g1 := blk_grown h.err hg n1
  have g2 := blk_grown h.rd.1 hg n2
  exact ⟨blk_put g0 0 _ rfl, blk_far g1 (by simp) _, ⟨blk_far g2 (by simp <;> omega) _, h.rd.2⟩, Kd.R_far hr (fun q hq => hq.1) _, y4_ hB (Nat.le_refl _)⟩
theorem block_Unpack.free {w W W' : World} {v : Value} {acc : List S25} {rest : ByteArray} (h : block_Unpack.St w W v acc rest) (hg : W.grownBy W' v.ownBlock) : W'.frozen? ⟨w.heap.size, 0, none⟩ = false ∧ W'.cell? ⟨w.heap.size, 0, none⟩ = some v := by
  have hx := blk_grown h.out hg (fun e => (h.row.1 _ e.symm).1 rfl)
  exact ⟨blk_frozen hx 0, by rw [Lib.cell_of_heap hx]; rfl⟩
theorem block_Unpack.box {w W W6 W' : World} {v : Value} {acc : List S25} {rest key val : ByteArray} {gb : Nat} (h : block_Unpack.St w W v acc rest) (hx6 : W6.heap[gb]? = some (.cells #[.string key, .string val] 25 (0, 0))) (hge : W.heap.size ≤ gb) (hg : W6.grownBy W' v.ownBlock) :
    W'.cell? ⟨gb, 0, none⟩ = some (.string key) ∧ ¬ (gb = w.heap.size) := by
  obtain ⟨h0, inner, hown, hr⟩ := h.row
  have nx : some gb ≠ v.ownBlock := fun e => Nat.lt_irrefl _ (Nat.lt_of_lt_of_le (own_lt hown _ e.symm) hge)
  have hx := blk_grown hx6 hg nx
  have hlt := blk_lt h.out
  exact ⟨by rw [Lib.cell_of_heap hx]; rfl, by omega⟩
set_option maxHeartbeats 8000000 in
set_option maxRecDepth 100000 in
theorem block_Unpack.right (k : Nat) (s : ByteArray) (r : List S25) (w : World) (h : block_Unpack.f0 k s = some r) :
    Calls Try.prog 17 #[.string s] w fun e w' => ∃ v : Value, e = .returned (.tuple #[v, .int .i64 0]) ∧ Kd.R k25 25 w' w.heap.size (fun _ => True) v r ∧ Below w.heap.size w w' := by
  have hmf : ∀ (fn : Fn) (first cap : Array Value) (w : World), (Instr.makeFunc fn first cap).run Try.prog w = .ok (.func fn first cap) w := fun _ _ _ _ => rfl
  obtain ⟨⟨n, rest⟩, hn, h⟩ := Option.bind_eq_some_iff.1 h
  have HN := Aside0.mk hn
  by_cases hb : n ≤ 1000000
  · rw [if_pos hb] at h
    obtain ⟨⟨r', rest'⟩, hg, h⟩ := Option.bind_eq_some_iff.1 h
    by_cases hz : rest'.toList = []
    · rw [if_pos hz] at h
      obtain rfl := Option.some.inj h
      have H0 : Aside0 (block_Unpack.go k (n.toNat - 0) ((0 : Int) == 0) rest ⟨#[]⟩ [] = some (r', rest')) := ⟨hg⟩
      clear hn h hg
      go_enter_defers Try.func17, Try.ntmps17
      go_wp2_with (go_at_call 73; refine (block_reader_num.calls k (w.heap.size + 1 + 1) s n rest w _ (block_Unpack.St.first w s).rd (block_Unpack.St.first w s).low HN.out).mono ?_; rintro e w4 ⟨rfl, hI, hB, hK⟩; have HS := Aside0.mk ((block_Unpack.St.first w s).call hI hB hK); clear hI hB hK)
      go_loopw [5, 6] (fun ls i wr => ∃ (j : Nat) (last rest : ByteArray) (acc : List S25) (v : Value), ls = .string last ∧ i = .int .i64 (j : Int) ∧ j ≤ n.toNat ∧ Aside0 (block_Unpack.go k (n.toNat - j) ((j : Int) == 0) rest last acc = some (r', rest')) ∧ Aside0 (block_Unpack.St w wr v acc rest)) (fun _ i _ => n.toNat - (intOf i).toNat)
      case atStart => exact ⟨0, _, _, _, _, rfl, rfl, Nat.zero_le _, H0, HS⟩
      case round =>
        clear H0 HS
        obtain ⟨j, last, rest, acc, v, rfl, rfl, hj, HG, HS⟩ := hrel
        by_cases hlt : (j : Int) < n
        · have hg := HG.out
          rw [show n.toNat - j = (n.toNat - (j + 1)) + 1 by omega, block_Unpack.go] at hg
          obtain ⟨⟨key, val, rest2⟩, he, hg⟩ := Option.bind_eq_some_iff.1 hg
          by_cases hc : acc.length < 1000000
          · rw [if_pos hc] at hg
            obtain ⟨Ao, co, rfl⟩ := Kd.R_slice HS.out.row
            have HE := Aside0.mk he
            have HG2 := Aside0.mk hg
            clear he hg HG
            go_wp2_with (first
              | (go_at_call 74; refine (block_reader_entry.calls k (w.heap.size + 1 + 1) rest last ((j : Int) == 0) key val rest2 w _ HS.out.rd HS.out.low HE.out).mono ?_; rintro e w5 ⟨rfl, hI, hB, hK⟩; have HS5 := Aside0.mk (HS.out.call hI hB hK); clear hI hB hK)
              | ((with_reducible refine gate_dst (N := 8) rfl ?_); refine box_event ?hg (N := 8) ?hd (cs := #[.string ⟨#[]⟩, .string ⟨#[]⟩]) (t := 25) ?hr ?_; (case hd => rfl); (case hg => rfl); (case hr => first | (go_simp; done) | (go_simp; rfl)); intro gb hgb w6 hbox hb6; have z0 := (blk_cell hbox 0).trans rfl; have z1 := (blk_cell hbox 1).trans rfl; have fz0 := blk_frozen hbox 0; have fz1 := blk_frozen hbox 1; have HGE := Aside0.mk (Nat.le_of_eq hgb.symm); have HS6 := Aside0.mk (HS5.out.below (y4_ (v := .string val) (j := 1) (y4_ (v := .string key) (j := 0) hb6 (Nat.le_of_eq hgb.symm)) (Nat.le_of_eq hgb.symm))); have HX6 : Aside0 (((w6.setCell ⟨gb, 0, none⟩ (.string key)).setCell ⟨gb, 1, none⟩ (.string val)).heap[gb]? = some (.cells #[.string key, .string val] 25 (0, 0))) := ⟨blk_put (blk_put hbox 0 _ rfl) 1 _ rfl⟩; have q0 : ((w6.setCell ⟨gb, 0, none⟩ (.string key)).setCell ⟨gb, 1, none⟩ (.string val)).cell? ⟨w.heap.size, 0, none⟩ = some (.slice Ao acc.length co) := (by rw [Lib.cell_of_heap HS6.out.out]; rfl); clear hbox hb6 hgb)
              | ((with_reducible refine gate_builtin (b := .append) (xs := #[.tmp 25, .tmp 27]) rfl ?_); at_builtin; refine Kd.R_append k25 (w0 := w) w.heap.size rfl (.tmp 25) (.tmp 27) 22 25 (.agg #[.string ⟨#[]⟩, .string ⟨#[]⟩]) 32 rfl Try.underlying22 info25 rfl (by decide) (by omega) (.slice Ao acc.length co) acc (⟨key, val⟩ : S25) [.string key, .string val] (fun q => q ≠ w.heap.size ∧ q ≠ w.heap.size + 1 ∧ q ≠ w.heap.size + 1 + 1) (fun _ => False) rfl (by first | rfl | (simp [Act.eval, World.setCell]; done) | (go_simp; done) | (go_simp; rfl)) (k25_mkM _ _ _ _) (fun _ hk => hk.elim) HS6.out.fresh HS6.out.row HS6.out.low HS6.out.low.size (by omega) ?_; intro v1 w7 ho hb hg _; obtain ⟨A1, c1, rfl⟩ := Kd.R_slice ho; have HS7 := Aside0.mk (HS6.out.grown hg ho hb); have HX7 := Aside0.mk (block_Unpack.box HS5.out HX6.out HGE.out hg); have HF7 := Aside0.mk (block_Unpack.free HS6.out hg); clear ho hb hg; have f0 := HF7.out.1; have f2 := HF7.out.2; have y0 := HX7.out.1; have y1 := HX7.out.2; have y2 : ¬ (w.heap.size = gb) := fun e => y1 e.symm))
            go_roundw
            case rel => exact ⟨j + 1, key, rest2, acc ++ [(⟨key, val⟩ : S25)], .slice A1 (acc ++ [(⟨key, val⟩ : S25)]).length c1, rfl, by first | rfl | go_num, by omega, ⟨by rw [show ((((j + 1 : Nat) : Int)) == 0) = false by rw [beq_eq_false_iff_ne]; omega]; exact HG2.out⟩, ⟨by first | exact HS7.out | (have h_ := HS7.out; simpa using h_)⟩⟩
            case measure => simp [intOf]; omega
          · rw [if_neg hc] at hg
            cases hg
        · obtain rfl : j = n.toNat := by omega
          have hg := HG.out
          rw [Nat.sub_self, block_Unpack.go] at hg
          simp only [Option.some.injEq, Prod.mk.injEq] at hg
          obtain ⟨rfl, rfl⟩ := hg
          clear HG
          obtain ⟨Ao, co, rfl⟩ := Kd.R_slice HS.out.row
          have hz2 : rest.size = 0 := Go.Proofs.YtnklnjghecmihaaW.Ord.toList_eq_nil.1 hz
          have c0 := HS.out.out
          have c2 := HS.out.rd.1
          have q0 : wr.cell? ⟨w.heap.size + 1 + 1, 0, none⟩ = some (.string rest) := by rw [Lib.cell_of_heap c2]; rfl
          have q1 : wr.cell? ⟨w.heap.size, 0, none⟩ = some (.slice Ao acc.length co) := by rw [Lib.cell_of_heap c0]; rfl
          have f0 := blk_frozen c0 0
          have f1 := blk_frozen HS.out.err 0
          have q2 : wr.cell? ⟨w.heap.size + 1, 0, none⟩ = some (.int .i64 0) := by rw [Lib.cell_of_heap HS.out.err]; rfl
          clear c0 c2
          go_wp2
          refine leaves_cons (f := 72) (args := #[.pointer (some ⟨w.heap.size, 0, none⟩), .pointer (some ⟨w.heap.size + 1, 0, none⟩)]) (by simp) (by simp [go_sem]) ?_
          refine (block_Unpack.idle ⟨w.heap.size, 0, none⟩ ⟨w.heap.size + 1, 0, none⟩ _).mono ?_
          rintro e u' w'' ⟨rfl, rfl, rfl⟩
          simp [Leaves, settle, results, Try.results17, go_sem, q1, q2]
          exact ⟨Kd.R_mono (Kd.R_far (p := ⟨w.heap.size + 1, 0, none⟩) (Kd.R_far (p := ⟨w.heap.size, 0, none⟩) HS.out.row (fun _ hk => hk.1) _) (fun _ hk => hk.2.1) _) (fun _ _ => trivial), y4_ (y4_ HS.out.low (Nat.le_refl _)) (by omega)⟩
    · rw [if_neg hz] at h
      cases h
  · rw [if_neg hb] at h
    cases h
def block_Unpack.f (k : Nat) (s : ByteArray) : Option (List S25 × Int) := (block_Unpack.f0 k s).bind fun l => some (l, 0)
theorem block_Unpack.mono_go (k : Nat) : ∀ (m : Nat) (first : Bool) (rest last : ByteArray) (acc : List S25), LeO (block_Unpack.go k m first rest last acc) (block_Unpack.go (k + 1) m first rest last acc)
  | 0, _, _, _, _ => LeO.refl _
  | m + 1, first, rest, last, acc => LeO.bind (block_reader_entry.mono _ _ _ _) (fun _ => LeO.ite (block_Unpack.mono_go k m _ _ _ _) (LeO.none _))
theorem block_Unpack.mono : ∀ a0 k, LeO (block_Unpack.f k a0) (block_Unpack.f (k + 1) a0) := fun a0 k =>
  LeO.bind (LeO.bind (block_reader_num.mono _ _) (fun _ => LeO.ite (LeO.bind (block_Unpack.mono_go k _ _ _ _ _) (fun _ => LeO.refl _)) (LeO.none _))) (fun _ => LeO.refl _)
theorem block_Unpack.calls (k : Nat) (a0 : ByteArray) (r1 : List S25) (r2 : Int) (w : World) (h : block_Unpack.f k a0 = some (r1, r2)) :
    Calls Try.prog 17 #[.string a0] w fun e w' => ∃ v0_ : Value, e = .returned (.tuple #[v0_, .int .i64 r2]) ∧ Kd.R k25 25 w' w.heap.size (fun _ => True) v0_ r1 ∧ Below w.heap.size w w' := by
  obtain ⟨l, hl, h⟩ := Option.bind_eq_some_iff.1 h
  simp only [Option.some.injEq, Prod.mk.injEq] at h
  obtain ⟨rfl, rfl⟩ := h
  exact block_Unpack.right k a0 l w hl

end Go.Proofs.Ytnklnjghecmihaa.H5
