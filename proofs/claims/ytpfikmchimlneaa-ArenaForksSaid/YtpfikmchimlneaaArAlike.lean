/- law08's alike. -/
import Derived.Test.YtpfikmchimlneaaArOnce
import Derived.Outline
set_option linter.unusedVariables false
set_option linter.unusedSimpArgs false
namespace Go.Proofs.Ytpfikmchimlneaa.Ar
open Go.Shelf Go.Proofs.YtpfikmchimlneaaW.Mine Go.RowKit Go.Proofs.YtpfikmchimlneaaW.PrintWords Go.Proofs.YtpfikmchimlneaaW.PrintWords.Kd Go.Proofs.YtpfikmchimlneaaW.PrintLast Go.Proofs.YtpfikmchimlneaaW.PrintMore Go.Proofs.YtpfikmchimlneaaW.Sl Go.Proofs.YtpfikmchimlneaaW.Ar
attribute [local go_sem] Oper.semAt_some
variable {B g : Nat} {w W V W' : World} {v v' : Value} {s s' : St Int} {X : Array Value} {r : Rf}
def okL (r : Rf) (o : Option (Int × Nat)) (x : Int × Int) : Option (Int × Nat) := o.bind fun y => if y.1 < x.1 ∧ rhas r x.1 = true ∧ r.vl.getD x.1.toNat 0 = x.2 then some (x.1, y.2 + 1) else none
def stL (r : Rf) (pre : List (Int × Int)) : Option (Int × Nat) := pre.foldl (okL r) (some (0, 0))
theorem stL_snoc (r : Rf) (pre : List (Int × Int)) (x : Int × Int) : stL r (pre ++ [x]) = okL r (stL r pre) x := by simp only [stL, List.foldl_append, List.foldl_cons, List.foldl_nil]
theorem okL_none (r : Rf) : ∀ pre : List (Int × Int), pre.foldl (okL r) none = none
  | [] => rfl
  | x :: pre => okL_none r pre
theorem stL_cnt (r : Rf) : ∀ (pre : List (Int × Int)) (y : Int) (c0 c : Nat) (la : Int), pre.foldl (okL r) (some (y, c0)) = some (la, c) → c = c0 + pre.length
  | [], y, c0, c, la, h => by
    simp only [List.foldl_nil, Option.some.injEq, Prod.mk.injEq] at h
    rw [← h.2]
    rfl
  | x :: pre, y, c0, c, la, h => by
    rw [List.foldl_cons] at h
    by_cases hx : y < x.1 ∧ rhas r x.1 = true ∧ r.vl.getD x.1.toNat 0 = x.2
    · rw [show okL r (some (y, c0)) x = some (x.1, c0 + 1) from (by show (if _ then _ else _) = _; rw [if_pos hx])] at h
      have := stL_cnt r pre x.1 (c0 + 1) c la h
      rw [List.length_cons]
      omega
    · rw [show okL r (some (y, c0)) x = none from (by show (if _ then _ else _) = _; rw [if_neg hx]), okL_none] at h
      cases h
theorem stL_seq {s : St Int} {r : Rf} (h : Sim s r) : ∀ k, k ≤ s.cells.length → ∃ la, stL r (seqOf s k) = some (la, (seqOf s k).length) ∧ la ≤ (k : Int)
  | 0, _ => ⟨0, rfl, by omega⟩
  | k + 1, hk => by
    obtain ⟨la, h1, h2⟩ := stL_seq h k (by omega)
    rw [seqOf]
    cases hb : (s.cells.getD k z0).2.1
    · rw [if_neg (by decide), List.append_nil]
      exact ⟨la, h1, by omega⟩
    · rw [if_pos rfl, stL_snoc, h1]
      have e0 : ((k : Int) + 1).toNat = k + 1 := by omega
      have hr : rhas r ((k : Int) + 1) = true := by
        rw [← h.has]
        unfold St.has
        have e : ((k : Int) + 1 - 1).toNat = k := by omega
        rw [decide_eq_true (show (1 : Int) ≤ (k : Int) + 1 by omega), decide_eq_true (show (k : Int) + 1 ≤ (s.cells.length : Int) by omega), e, List.getElem?_eq_getElem (by omega)]
        rw [List.getD_eq_getElem?_getD, List.getElem?_eq_getElem (by omega)] at hb
        exact hb
      have hv := h.vl k (by omega) hb
      refine ⟨(k : Int) + 1, ?_, by omega⟩
      show (if la < (k : Int) + 1 ∧ rhas r ((k : Int) + 1) = true ∧ r.vl.getD ((k : Int) + 1).toNat 0 = (s.cells.getD k z0).1 then some ((k : Int) + 1, (seqOf s k).length + 1) else none) = _
      rw [e0, if_pos ⟨by omega, hr, hv⟩, List.length_append, List.length_singleton]
theorem seq_count {s : St Int} {r : Rf} (h : Sim s r) : ∀ k, k ≤ 63 → (r.tk.take (k + 1)).countP id = (seqOf s k).length
  | 0, _ => by
    rw [rlen_step _ _ (by rw [h.lt]; decide), h.tk0]
    rfl
  | k + 1, hk => by
    rw [rlen_step _ _ (by rw [h.lt]; omega), seq_count h k (by omega), h.tk k (by omega), seqOf]
    cases (s.cells.getD k z0).2.1
    · simp
    · simp
theorem seq_end {s : St Int} : ∀ d, seqOf s (s.cells.length + d) = seqOf s s.cells.length
  | 0 => rfl
  | d + 1 => by
    show seqOf s (s.cells.length + d + 1) = _
    rw [seqOf, seq_end d, List.getD_eq_getElem?_getD, List.getElem?_eq_none (by omega)]
    simp
theorem seq_len {s : St Int} {r : Rf} (h : Sim s r) : (seqOf s s.cells.length).length = rlen r := by
  have h1 := h.le
  have h2 := h.m2
  have h3 := seq_count h 63 (Nat.le_refl _)
  rw [List.take_of_length_le (by rw [h.lt]; decide), show 63 = s.cells.length + (63 - s.cells.length) by omega, seq_end] at h3
  exact h3.symm
theorem in_loadW {F : Fence} {n : Nat} {P : Program} {ops : Array Oper} {rest : List Oper} {o : Oper} {a : Act} {Q : Exit → Act → World → Prop} {w : World} (hw : Region.wanted o (yielded ops a.tmps) = true) {t : TypeId} {x : Operand} (ho : o.op = .load t x) {g : Nat} {cells : Array Value} (hx : a.eval x = .pointer (some ⟨g, 0, none⟩))
    {e : TypeId} {d : TypeDesc} (hh : w.heap[g]? = some (.cells cells e (0, 0))) (hu : P.underlying t = some d) (hd : (match d with | .struct _ | .array _ _ => true | _ => false) = true) (hi : (P.info? t).map (·.size) = some cells.size)
    (h : wpListIn F n P ops Q rest (a.put o.dst (.agg cells)) w) : wpListIn F n P ops Q (o :: rest) a w := by
  refine wpListIn_step fun K hK => ?_
  rw [if_pos hw]
  unfold Oper.wpIn
  refine ⟨(fun f hf => by simp [Oper.about, ho] at hf), ?_⟩
  rw [Oper.semAt_plain F _ _ (by rw [ho]; intro c hc; cases hc)]
  have hr : (execOp a.eval o).run P w = .ok (.value (.agg cells)) w := by
    unfold execOp
    simp only [ho, hx, Instr.loadAt, Instr.sureAddr, Sem.run_bind, Sem.run_pure, Result.andThen_ok, run_loadVar_row w g e t cells (0, 0) d hh hu hd hi]
  rw [hr]
  exact hK _ _ h
/-- what alike's loop keeps -/
structure LI (w L : World) (X : Array Value) (r : Rf) (g : Nat) (v : Value) (pre : List (Int × Int)) (W : World) : Prop where mk ::
  out : ∃ la c, stL r pre = some (la, c) ∧ W.heap[w.heap.size]? = some (.cells X 42 (0, 0)) ∧ W.heap[w.heap.size + 1]? = some (.cells #[.bool false] 4 (0, 0)) ∧ W.heap[w.heap.size + 1 + 1]? = some (.cells #[.int .i64 (c : Int)] 3 (0, 0)) ∧ W.heap[w.heap.size + 1 + 1 + 1]? = some (.cells #[.int .i64 la] 3 (0, 0)) ∧ Below w.heap.size w W ∧ KA g v (w.heap.size + 1 + 1 + 1 + 1) L W
set_option maxHeartbeats 32000000 in
set_option maxRecDepth 100000 in
theorem alike_calls (w : World) (hA : AI B w g v s) (hR : RV B w X r) (hS : Sim s r) :
    Calls Try.prog 21 #[.pointer (some ⟨g, 0, none⟩), .agg X] w fun e w' => e = .returned (.bool true) ∧ Below w.heap.size w w' := by
  have hnn := @ne_nil
  refine (callsIn_wide (n := 7)).1 ?_
  refine callsIn_of_wp_marks Try.func21 rfl trivial ?_ rfl
  simp only [Try.ntmps21, List.size_toArray, List.length_cons, List.length_nil, Nat.reduceAdd, Nat.reduceSub, Array.replicate_succ, Array.replicate_zero, List.push_toArray, List.append_toArray, List.nil_append, List.cons_append]
  gi_wp2_with (first
    | (refine ⟨trivial, ?_⟩; gi_at_call 23; refine (all_calls (g := g) _).mono ?_; rintro e w2 ⟨rfl, rfl⟩))
  obtain ⟨WL, hWL⟩ : ∃ WL, (((((w.alloc (.cells X 42)).alloc (.cells #[.bool false] 4)).alloc (.cells #[.int .i64 0] 3)).alloc (.cells #[.int .i64 0] 3)).alloc (.cells #[.pointer (some ⟨g, 0, none⟩)] 35)) = WL := ⟨_, rfl⟩
  have hb4 : Below w.heap.size w WL := by
    rw [← hWL]
    exact (((((Below.refl w.heap.size w).alloc (Nat.le_refl _) _).alloc (by simp) _).alloc (by simp; omega) _).alloc (by simp; omega) _).alloc (by simp; omega) _
  have hsz : WL.heap.size = w.heap.size + 1 + 1 + 1 + 1 + 1 := by rw [← hWL]; simp
  have n0 := heap_alloc_new w (.cells X 42)
  have n1 := heap_alloc_new (w.alloc (.cells X 42)) (.cells #[.bool false] 4)
  have n2 := heap_alloc_new ((w.alloc (.cells X 42)).alloc (.cells #[.bool false] 4)) (.cells #[.int .i64 0] 3)
  have n3 := heap_alloc_new (((w.alloc (.cells X 42)).alloc (.cells #[.bool false] 4)).alloc (.cells #[.int .i64 0] 3)) (.cells #[.int .i64 0] 3)
  have n4 := heap_alloc_new ((((w.alloc (.cells X 42)).alloc (.cells #[.bool false] 4)).alloc (.cells #[.int .i64 0] 3)).alloc (.cells #[.int .i64 0] 3)) (.cells #[.pointer (some ⟨g, 0, none⟩)] 35)
  simp only [World.size_alloc] at n1 n2 n3 n4
  have m0 : WL.heap[w.heap.size]? = some (.cells X 42 (0, 0)) := by rw [← hWL]; exact blk_alloc (blk_alloc (blk_alloc (blk_alloc n0 _) _) _) _
  have m1 : WL.heap[w.heap.size + 1]? = some (.cells #[.bool false] 4 (0, 0)) := by rw [← hWL]; exact blk_alloc (blk_alloc (blk_alloc n1 _) _) _
  have m2 : WL.heap[w.heap.size + 1 + 1]? = some (.cells #[.int .i64 0] 3 (0, 0)) := by rw [← hWL]; exact blk_alloc (blk_alloc n2 _) _
  have m3 : WL.heap[w.heap.size + 1 + 1 + 1]? = some (.cells #[.int .i64 0] 3 (0, 0)) := by rw [← hWL]; exact blk_alloc n3 _
  have m4 : WL.cell? ⟨w.heap.size + 1 + 1 + 1 + 1, 0, none⟩ = some (.pointer (some ⟨g, 0, none⟩)) := by rw [← hWL]; exact (blk_cell n4 0).trans rfl
  rw [hWL]
  have hA4 := hA.keep hb4
  have hglt := hA.lt
  have hvlt := hA.rlt
  have HA4 := Aside0.mk hA4
  have HSIM := Aside0.mk hS
  have HRV0 := Aside0.mk hR
  have HXS := Aside0.mk hR.sz
  have HSZ := Aside0.mk hsz
  have HGL := Aside0.mk hglt
  have HVL := Aside0.mk hvlt
  have HBW := Aside0.mk hb4.size
  have hcl := hS.bd.c
  have hI0 : LI w WL X r g v [] WL := ⟨0, 0, rfl, m0, m1, m2, m3, hb4, KA.refl _ _ _ _⟩
  clear hWL n0 n1 n2 n3 n4 m0 m1 m2 m3 hb4 hA hR hS hglt hvlt
  refine wpIn_rangeFunc_ownF rfl (by omega) (gf := 66) (lb := #[.pointer (some ⟨w.heap.size + 1 + 1 + 1 + 1, 0, none⟩)]) rfl trivial (enters_of Try.func66 (by kernel_rfl) rfl)
    (all_stops WL hA4 hcl (w.heap.size + 1 + 1 + 1 + 1) m4 (by omega)) KA.trans (fun W l o o' hl _ _ _ => KA.put hA4.lt (by omega) hA4.rlt W l o' hl) (Below.refl _ _) (fun _ => rfl)
    (LI w WL X r g v) (fun c pre _ => stL r pre = none)
    ?own (fun _ _ _ _ _ hs _ _ => hs) hI0 (fun x => { tmps := #[.pointer (some ⟨g, 0, none⟩), .agg X, undef, .pointer (some ⟨w.heap.size, 0, none⟩), .pointer (some ⟨w.heap.size + 1, 0, none⟩), .pointer (some ⟨w.heap.size + 1 + 1, 0, none⟩), .pointer (some ⟨w.heap.size + 1 + 1 + 1, 0, none⟩), .func (.func 66) #[] #[.pointer (some ⟨w.heap.size + 1 + 1 + 1 + 1, 0, none⟩)], .int .i64 x.1, .int .i64 x.2, .pointer (some ⟨g, 0, none⟩), .func (.func 66) #[] #[.pointer (some ⟨w.heap.size + 1 + 1 + 1 + 1, 0, none⟩)], .func (.func 66) #[] #[.pointer (some ⟨w.heap.size + 1 + 1 + 1 + 1, 0, none⟩)], .bool false, .func (.func 66) #[] #[.pointer (some ⟨w.heap.size + 1 + 1 + 1 + 1, 0, none⟩)], .int .i64 x.1, .int .i64 x.2, undef, undef, undef, undef, undef, undef, undef, undef, undef, undef, undef, undef, undef, undef, undef, undef, undef, undef, undef, undef, undef, undef, undef, undef, undef, undef, undef, undef, undef, undef, undef, undef, undef, undef, undef, undef, undef, undef, undef, undef, undef, undef, undef, undef, undef, undef], defers := [] }) ?assign ?body ?done ?stop
  case own =>
    intro pre A C row hs hg hr
    obtain ⟨la, c, h1, h2, h3, h4, h5, h6, h7⟩ := hs.out
    exact ⟨la, c, h1, blkFrom h2 hg hr, blkFrom h3 hg hr, blkFrom h4 hg hr, blkFrom h5 hg hr, h6.grown hg h6.size (fun k e => by have := (hr k e).1; have := HBW.out; omega), KA.from h7 (Nat.le_refl _) HA4.out.lt (by have := HSZ.out; omega) HA4.out.rlt hg hr⟩
  case assign =>
    intro l x W K hK
    dsimp only [encA]
    gi_wp2
    exact hK
  case body =>
    rintro l pre ⟨x1, x2⟩ W hI hlt
    obtain ⟨la, c, h1, h2, h3, h4, h5, h6, h7⟩ := hI.out
    have H1 := Aside0.mk h1
    have H2 := Aside0.mk h2
    have H3 := Aside0.mk h3
    have H4 := Aside0.mk h4
    have H5 := Aside0.mk h5
    have H6 := Aside0.mk h6
    have H7 := Aside0.mk h7
    have hcb := (blk_cell h3 0).trans rfl
    have hfb := blk_frozen h3 0
    have hcn := (blk_cell h4 0).trans rfl
    have hfn := blk_frozen h4 0
    have hcl := (blk_cell h5 0).trans rfl
    have hfl := blk_frozen h5 0
    have hbad : ¬ (la < x1 ∧ rhas r x1 = true ∧ r.vl.getD x1.toNat 0 = x2) → stL r (pre ++ [(x1, x2)]) = none := fun hb => by
      rw [stL_snoc, H1.out]
      show (if la < x1 ∧ rhas r x1 = true ∧ r.vl.getD x1.toNat 0 = x2 then some (x1, c + 1) else none) = none
      rw [if_neg hb]
    have HBAD := Aside0.mk hbad
    have HRW := Aside0.mk (HRV0.out.keep h6)
    have HGW := Aside0.mk (Nat.lt_of_lt_of_le HGL.out h6.size)
    have HVW := Aside0.mk (fun k hk => Nat.lt_of_lt_of_le (HVL.out k hk) h6.size)
    have HZW := Aside0.mk (Nat.le_trans (Nat.le_of_eq HSZ.out.symm) h7.n)
    by_cases g1 : x1 ≤ la
    · clear h1 h2 h3 h4 h5 h6 h7 hI hbad
      gi_wp2
      refine ⟨trivial, ?_⟩
      gi_wp2
      exact ⟨KeepsOthers.setCell _ _ _, HBAD.out (by omega)⟩
    have g2 : la < x1 := by omega
    have g3 : decide (x1 ≤ la) = false := decide_eq_false g1
    cases hr : rhas r x1
    · have HR9 := Aside0.mk hr
      clear h1 h2 h3 h4 h5 h6 h7 hI hbad hr g1
      gi_wp2_with (first
        | (refine in_loadW (by rfl) (t := 42) (x := .tmp 3) rfl (g := w.heap.size) (cells := X) rfl H2.out Try.underlying42 rfl (by rw [HXS.out]; exact info42) ?_)
        | (refine ⟨trivial, ?_⟩; gi_at_call 63; refine (CallsIn.inRound l (callsIn_wide.2 (ref_there W HRW.out x1))).mono ?_; rintro e w2 ⟨rfl, hb2⟩; rw [HR9.out]; have hq := blk_below H3.out hb2; have d0 := (blk_cell hq 0).trans rfl; have e0 := blk_frozen hq 0; have HB2 := Aside0.mk hb2; clear hb2 hq))
      exact ⟨(KeepsOthers.of_grownBy (grownOf HB2.out) (by simp)).trans (KeepsOthers.setCell _ _ _), HBAD.out (by rw [HR9.out]; simp)⟩
    obtain ⟨j, rfl, hj1, hj, _⟩ := rhas_yes hr
    have HR9 := Aside0.mk hr
    have hj2 : (j : Int) < 64 := by omega
    have hj3 : (0 : Int) ≤ (j : Int) := by omega
    rw [Int.toNat_natCast] at hbad
    have HBD2 := Aside0.mk hbad
    have HJ := Aside0.mk hj
    by_cases hv : r.vl.getD j 0 = x2
    · have hgood : stL r (pre ++ [((j : Int), x2)]) = some ((j : Int), c + 1) := by
        rw [stL_snoc, H1.out]
        show (if la < (j : Int) ∧ rhas r (j : Int) = true ∧ r.vl.getD ((j : Int)).toNat 0 = x2 then some ((j : Int), c + 1) else none) = _
        rw [Int.toNat_natCast, if_pos ⟨g2, hr, hv⟩]
      have HGOOD := Aside0.mk hgood
      have hcc : c < 1000000 := by
        have h8 := stL_cnt r pre 0 0 c la h1
        omega
      have HVV := Aside0.mk hv
      clear h1 h2 h3 h4 h5 h6 h7 hI hbad hr g1 hv hgood HBAD
      gi_wp2_with (first
        | (refine in_loadW (by rfl) (t := 42) (x := .tmp 3) rfl (g := w.heap.size) (cells := X) rfl H2.out Try.underlying42 rfl (by rw [HXS.out]; exact info42) ?_)
        | (refine ⟨trivial, ?_⟩; gi_at_call 63; refine (CallsIn.inRound l (callsIn_wide.2 (ref_there W HRW.out (j : Int)))).mono ?_; rintro e w2 ⟨rfl, hb2⟩; rw [HR9.out]; have hv9 := (blk_cell (blk_below H2.out hb2) (66 + j)).trans (HRW.out.vl j HJ.out); rw [HVV.out] at hv9; have hq := blk_below H4.out hb2; have d0 := (blk_cell hq 0).trans rfl; have e0 := blk_frozen hq 0; have hq2 := blk_below H5.out hb2; have d1 := (blk_cell hq2 0).trans rfl; have e1 := blk_frozen hq2 0; have HB2 := Aside0.mk hb2; have HQ := Aside0.mk hq; have HQ2 := Aside0.mk hq2; clear hb2 hq hq2))
      have hzw := HZW.out
      have hzl := HSZ.out
      have hk2 := KA.below (v := v) HB2.out HGW.out HVW.out (show w.heap.size + 1 + 1 + 1 + 1 < W.heap.size by omega)
      have kk := ((hk2.setO ⟨w.heap.size + 1 + 1 + 1, 0, none⟩ (.int .i64 (j : Int)) (by have := HGL.out; show g ≠ w.heap.size + 1 + 1 + 1; omega) (by show w.heap.size + 1 + 1 + 1 + 1 ≠ w.heap.size + 1 + 1 + 1; omega) (fun k hk => by have := HVL.out k hk; show k ≠ w.heap.size + 1 + 1 + 1; omega)).setO ⟨w.heap.size + 1 + 1, 0, none⟩ (.int .i64 ((c : Int) + 1)) (by have := HGL.out; show g ≠ w.heap.size + 1 + 1; omega) (by show w.heap.size + 1 + 1 + 1 + 1 ≠ w.heap.size + 1 + 1; omega) (fun k hk => by have := HVL.out k hk; show k ≠ w.heap.size + 1 + 1; omega))
      refine ⟨((KeepsOthers.of_grownBy (grownOf HB2.out) (by simp)).trans (KeepsOthers.setCell _ _ _)).trans (KeepsOthers.setCell _ _ _), kk, ⟨(j : Int), c + 1, HGOOD.out, ?_, ?_, ?_, ?_, ?_, H7.out.trans kk⟩⟩
      · exact blk_far (blk_far (blk_below H2.out HB2.out) (p := ⟨w.heap.size + 1 + 1 + 1, 0, none⟩) (by show w.heap.size ≠ w.heap.size + 1 + 1 + 1; omega) _) (p := ⟨w.heap.size + 1 + 1, 0, none⟩) (by show w.heap.size ≠ w.heap.size + 1 + 1; omega) _
      · exact blk_far (blk_far (blk_below H3.out HB2.out) (p := ⟨w.heap.size + 1 + 1 + 1, 0, none⟩) (by show w.heap.size + 1 ≠ w.heap.size + 1 + 1 + 1; omega) _) (p := ⟨w.heap.size + 1 + 1, 0, none⟩) (by show w.heap.size + 1 ≠ w.heap.size + 1 + 1; omega) _
      · exact blk_put (blk_far HQ.out (p := ⟨w.heap.size + 1 + 1 + 1, 0, none⟩) (by show w.heap.size + 1 + 1 ≠ w.heap.size + 1 + 1 + 1; omega) _) 0 _ rfl
      · exact blk_far (blk_put HQ2.out 0 _ rfl) (p := ⟨w.heap.size + 1 + 1, 0, none⟩) (by show w.heap.size + 1 + 1 + 1 ≠ w.heap.size + 1 + 1; omega) _
      · exact ((H6.out.trans (HB2.out.mono H6.out.size)).setCell (p := ⟨w.heap.size + 1 + 1 + 1, 0, none⟩) (by show w.heap.size ≤ w.heap.size + 1 + 1 + 1; omega) _).setCell (p := ⟨w.heap.size + 1 + 1, 0, none⟩) (by show w.heap.size ≤ w.heap.size + 1 + 1; omega) _
    · have HB9 := Aside0.mk (HBD2.out (fun hh => hv hh.2.2))
      obtain ⟨y, hy⟩ : ∃ y, r.vl.getD j 0 = y := ⟨_, rfl⟩
      rw [hy] at hv
      have HVV := Aside0.mk hy
      have hv2 : (y != x2) = true := bne_iff_ne.2 hv
      clear h1 h2 h3 h4 h5 h6 h7 hI hbad hr g1 hv hy HBAD
      gi_wp2_with (first
        | (refine in_loadW (by rfl) (t := 42) (x := .tmp 3) rfl (g := w.heap.size) (cells := X) rfl H2.out Try.underlying42 rfl (by rw [HXS.out]; exact info42) ?_)
        | (refine ⟨trivial, ?_⟩; gi_at_call 63; refine (CallsIn.inRound l (callsIn_wide.2 (ref_there W HRW.out (j : Int)))).mono ?_; rintro e w2 ⟨rfl, hb2⟩; rw [HR9.out]; have hv9 := (blk_cell (blk_below H2.out hb2) (66 + j)).trans (HRW.out.vl j HJ.out); rw [HVV.out] at hv9; have hq := blk_below H3.out hb2; have d0 := (blk_cell hq 0).trans rfl; have e0 := blk_frozen hq 0; have HB2 := Aside0.mk hb2; clear hb2 hq))
      exact ⟨(KeepsOthers.of_grownBy (grownOf HB2.out) (by simp)).trans (KeepsOthers.setCell _ _ _), HB9.out⟩
  case stop =>
    rintro D c pre W hD ⟨k, hk, rfl⟩ hbad hK
    obtain ⟨la, h1, _⟩ := stL_seq HSIM.out k hk
    rw [h1] at hbad
    cases hbad
  case done =>
    rintro D ys W hD rfl hI hK
    obtain ⟨la0, k1, _⟩ := stL_seq HSIM.out s.cells.length (Nat.le_refl _)
    obtain ⟨la, c, h1, h2, h3, h4, h5, h6, h7⟩ := hI.out
    rw [k1] at h1
    simp only [Option.some.injEq, Prod.mk.injEq] at h1
    obtain ⟨rfl, rfl⟩ := h1
    rw [seq_len HSIM.out] at h4
    have hmost := HSIM.out.most
    have hused := HSIM.out.used
    have hbd := HSIM.out.bd
    have hm2 := HSIM.out.m2
    have HX := Aside0.mk h2
    have HBL := Aside0.mk h3
    have HC := Aside0.mk h4
    have HB := Aside0.mk h6
    have HAW := Aside0.mk (h7.at HA4.out)
    have HRV := Aside0.mk (HRV0.out.keep h6)
    have HUS := Aside0.mk hused
    have HTP := Aside0.mk HSIM.out.top
    have HK := Aside0.mk hK
    obtain ⟨d, hd⟩ : ∃ d, r.most - (rlen r : Int) = d := ⟨_, rfl⟩
    have hd2 : s.most - s.used = d := by omega
    have hwr : wrap64 (r.most - (rlen r : Int)) = d := by have := hbd.u0; have := hbd.u1; unfold wrap64; omega
    have HLEFT := Aside0.mk (fun (V : World) (h : AI B V g v s) => hd2 ▸ left_int V h hbd.u0 hbd.u1 hbd.m)
    clear hI h2 h3 h4 h5 h6 h7 k1 hmost hused hbd hm2 hK hd hd2
    gi_wp2
    refine wpIn_wide.2 ?_
    refine wp_region_noPanic ?_
    refine start_ (n := 27) (S := (fun w' => w'.heap[w.heap.size]? = some (.cells X 42 (0, 0)) ∧ w'.heap[w.heap.size + 1 + 1]? = some (.cells #[.int .i64 (rlen r : Int)] 3 (0, 0)))) (ds := []) #[false, false, false, false, false, false, false, false, false, false, false, false, false, false, false, false, false, false, false, false, false, false, false, false, false, false, false] (by kernel_rfl) rfl rfl ⟨HX.out, HC.out⟩ (fun hHeld => ?_)
    have HV1 := Aside0.mk ((Below.refl W.heap.size W).drew)
    have HS42 := Aside0.mk hHeld
    clear hHeld
    generalize W.drew = V1 at HV1 HS42 ⊢
    refine take_ (i := 0) (N := some 37) (v := .int .i64 (rlen r : Int)) (a' := ?a0q1) #[true, false, false, false, false, false, false, false, false, false, false, false, false, false, false, false, false, false, false, false, false, false, false, false, false, false, false] rfl rfl (by kernel_rfl) (fun _ _ _ h => h) (Or.inl ⟨by rfl, fun w' hw' => ?y0q1⟩) HS42.out ?ha0q1 ?h0q1
    case y0q1 =>
      (have hc := (blk_cell hw'.2 0).trans rfl; (go_simp; first | done | with_reducible rfl))
    case ha0q1 => (simp only [pt_, pn_, sz_, ss_, i64_w, i32_w]; rfl)
    refine take_ (i := 1) (N := some 38) (v := .agg X) (a' := ?a1q1) #[true, true, false, false, false, false, false, false, false, false, false, false, false, false, false, false, false, false, false, false, false, false, false, false, false, false, false] rfl rfl (by kernel_rfl) (fun _ _ _ h => h) (Or.inl ⟨by rfl, fun w' hw' => ?y1q1⟩) HS42.out ?ha1q1 ?h1q1
    case y1q1 =>
      exact ld42 rfl rfl HXS.out hw'.1
    case ha1q1 => (simp only [pt_, pn_, sz_, ss_, i64_w, i32_w]; rfl)
    refine one_ (i := 2) (N := some 39) #[true, true, true, false, false, false, false, false, false, false, false, false, false, false, false, false, false, false, false, false, false, false, false, false, false, false, false] rfl rfl (by kernel_rfl) (by decide) (fun K hK => ?_)
    refine goes_ Try.func64 (by kernel_rfl) rfl #[.agg X] (by rfl) rfl rfl (by (try simp only [List.map_toArray, List.map_cons, List.map_nil]); first | done | rfl) ?_
    refine (ref_len V1 (HRV.out.keep HV1.out)).mono ?_
    rintro e V2 ⟨rfl, hb2⟩
    refine ⟨_, rfl, ?_⟩
    refine hK.out _ _ ⟨blk_below HS42.out.1 hb2, blk_below HS42.out.2 hb2⟩ (fun hHeld2 => ?_)
    have HV2 := Aside0.mk (HV1.out.trans (hb2.mono HV1.out.size))
    have HS2 := Aside0.mk (And.intro (blk_below HS42.out.1 hb2) (blk_below HS42.out.2 hb2))
    have HLEN := Aside0.mk (len_int V2 (HAW.out.keep HV2.out))
    rw [HUS.out] at HLEN
    clear hb2
    clear hK hHeld2
    refine norm_ (a' := ?_) ?_ ?_
    rotate_left
    · show Act.put _ (some 39) _ = _
      simp only [pt_, pn_, sz_, ss_, i64_w, i32_w]
      rfl
    refine pure_ (i := 3) (N := some 40) (v := ?_) (a' := ?_) #[true, true, true, true, false, false, false, false, false, false, false, false, false, false, false, false, false, false, false, false, false, false, false, false, false, false, false] rfl rfl (by kernel_rfl) (fun _ _ _ h => h) (Or.inl ⟨by rfl, ?_⟩) ?_ ?_
    rotate_left
    · intro w'
      (go_simp); (with_reducible rfl)
    rotate_left
    · simp only [pt_, pn_, sz_, ss_, i64_w, i32_w]; rfl
    refine pure_ (i := 4) (N := some 41) (v := ?_) (a' := ?_) #[true, true, true, true, true, false, false, false, false, false, false, false, false, false, false, false, false, false, false, false, false, false, false, false, false, false, false] rfl rfl (by kernel_rfl) (fun _ _ _ h => h) (Or.inl ⟨by rfl, ?_⟩) ?_ ?_
    rotate_left
    · intro w'
      (go_simp); (with_reducible rfl)
    rotate_left
    · simp only [pt_, pn_, sz_, ss_, i64_w, i32_w]; rfl
    refine pure_ (i := 5) (N := some 42) (v := ?_) (a' := ?_) #[true, true, true, true, true, true, false, false, false, false, false, false, false, false, false, false, false, false, false, false, false, false, false, false, false, false, false] rfl rfl (by kernel_rfl) (fun _ _ _ h => h) (Or.inl ⟨by rfl, ?_⟩) ?_ ?_
    rotate_left
    · intro w'
      (go_simp); (with_reducible rfl)
    rotate_left
    · simp only [pt_, pn_, sz_, ss_, i64_w, i32_w]; rfl
    refine take_ (i := 7) (N := some 44) (v := .int .i64 (rlen r : Int)) (a' := ?a7q1) #[true, true, true, true, true, true, false, true, false, false, false, false, false, false, false, false, false, false, false, false, false, false, false, false, false, false, false] rfl rfl (by kernel_rfl) (fun _ _ _ h => h) (Or.inl ⟨by rfl, fun w' hw' => ?y7q1⟩) HS2.out ?ha7q1 ?h7q1
    case y7q1 =>
      (have hc := (blk_cell hw'.2 0).trans rfl; (go_simp; first | done | with_reducible rfl))
    case ha7q1 => (simp only [pt_, pn_, sz_, ss_, i64_w, i32_w]; rfl)
    refine one_ (i := 6) (N := some 43) #[true, true, true, true, true, true, true, true, false, false, false, false, false, false, false, false, false, false, false, false, false, false, false, false, false, false, false] rfl rfl (by kernel_rfl) (by decide) (fun K hK => ?_)
    refine goes_ Try.func25 (by kernel_rfl) rfl #[.pointer (some ⟨g, 0, none⟩)] (by rfl) rfl rfl (by (try simp only [List.map_toArray, List.map_cons, List.map_nil]); first | done | rfl) ?_
    refine (HLEN.out).mono ?_
    rintro e V3 ⟨rfl, rfl⟩
    refine ⟨_, rfl, ?_⟩
    refine hK.out _ _ HS2.out (fun hHeld2 => ?_)
    clear hK hHeld2
    refine norm_ (a' := ?_) ?_ ?_
    rotate_left
    · show Act.put _ (some 43) _ = _
      simp only [pt_, pn_, sz_, ss_, i64_w, i32_w]
      rfl
    refine pure_ (i := 8) (N := some 45) (v := ?_) (a' := ?_) #[true, true, true, true, true, true, true, true, true, false, false, false, false, false, false, false, false, false, false, false, false, false, false, false, false, false, false] rfl rfl (by kernel_rfl) (fun _ _ _ h => h) (Or.inl ⟨by rfl, ?_⟩) ?_ ?_
    rotate_left
    · intro w'
      (go_simp); (with_reducible rfl)
    rotate_left
    · simp only [pt_, pn_, sz_, ss_, i64_w, i32_w]; rfl
    refine pure_ (i := 9) (N := some 46) (v := ?_) (a' := ?_) #[true, true, true, true, true, true, true, true, true, true, false, false, false, false, false, false, false, false, false, false, false, false, false, false, false, false, false] rfl rfl (by kernel_rfl) (fun _ _ _ h => h) (Or.inl ⟨by rfl, ?_⟩) ?_ ?_
    rotate_left
    · intro w'
      (go_simp); (with_reducible rfl)
    rotate_left
    · simp only [pt_, pn_, sz_, ss_, i64_w, i32_w]; rfl
    refine pure_ (i := 10) (N := some 47) (v := ?_) (a' := ?_) #[true, true, true, true, true, true, true, true, true, true, true, false, false, false, false, false, false, false, false, false, false, false, false, false, false, false, false] rfl rfl (by kernel_rfl) (fun _ _ _ h => h) (Or.inl ⟨by rfl, ?_⟩) ?_ ?_
    rotate_left
    · intro w'
      (go_simp); (with_reducible rfl)
    rotate_left
    · simp only [pt_, pn_, sz_, ss_, i64_w, i32_w]; rfl
    refine pure_ (i := 11) (N := some 48) (v := ?_) (a' := ?_) #[true, true, true, true, true, true, true, true, true, true, true, true, false, false, false, false, false, false, false, false, false, false, false, false, false, false, false] rfl rfl (by kernel_rfl) (fun _ _ _ h => h) (Or.inl ⟨by rfl, ?_⟩) ?_ ?_
    rotate_left
    · intro w'
      (go_simp); (with_reducible rfl)
    rotate_left
    · simp only [pt_, pn_, sz_, ss_, i64_w, i32_w]; rfl
    refine pure_ (i := 13) (N := some 50) (v := ?_) (a' := ?_) #[true, true, true, true, true, true, true, true, true, true, true, true, false, true, false, false, false, false, false, false, false, false, false, false, false, false, false] rfl rfl (by kernel_rfl) (fun _ _ _ h => h) (Or.inl ⟨by rfl, ?_⟩) ?_ ?_
    rotate_left
    · intro w'
      (go_simp); (with_reducible rfl)
    rotate_left
    · simp only [pt_, pn_, sz_, ss_, i64_w, i32_w]; rfl
    refine take_ (i := 14) (N := some 51) (v := .int .i64 r.most) (a' := ?a14q1) #[true, true, true, true, true, true, true, true, true, true, true, true, false, true, true, false, false, false, false, false, false, false, false, false, false, false, false] rfl rfl (by kernel_rfl) (fun _ _ _ h => h) (Or.inl ⟨by rfl, fun w' hw' => ?y14q1⟩) HS2.out ?ha14q1 ?h14q1
    case y14q1 =>
      (have hc := (blk_cell hw'.1 0).trans HRV.out.c0; (go_simp; first | done | with_reducible rfl))
    case ha14q1 => (simp only [pt_, pn_, sz_, ss_, i64_w, i32_w]; rfl)
    refine take_ (i := 15) (N := some 52) (v := .int .i64 (rlen r : Int)) (a' := ?a15q1) #[true, true, true, true, true, true, true, true, true, true, true, true, false, true, true, true, false, false, false, false, false, false, false, false, false, false, false] rfl rfl (by kernel_rfl) (fun _ _ _ h => h) (Or.inl ⟨by rfl, fun w' hw' => ?y15q1⟩) HS2.out ?ha15q1 ?h15q1
    case y15q1 =>
      (have hc := (blk_cell hw'.2 0).trans rfl; (go_simp; first | done | with_reducible rfl))
    case ha15q1 => (simp only [pt_, pn_, sz_, ss_, i64_w, i32_w]; rfl)
    refine pure_ (i := 16) (N := some 53) (v := ?_) (a' := ?_) #[true, true, true, true, true, true, true, true, true, true, true, true, false, true, true, true, true, false, false, false, false, false, false, false, false, false, false] rfl rfl (by kernel_rfl) (fun _ _ _ h => h) (Or.inl ⟨by rfl, ?_⟩) ?_ ?_
    rotate_left
    · intro w'
      (go_simp); (with_reducible rfl)
    rotate_left
    · simp only [hwr, pt_, pn_, sz_, ss_, i64_w, i32_w]; rfl
    refine one_ (i := 12) (N := some 49) #[true, true, true, true, true, true, true, true, true, true, true, true, true, true, true, true, true, false, false, false, false, false, false, false, false, false, false] rfl rfl (by kernel_rfl) (by decide) (fun K hK => ?_)
    refine goes_ Try.func19 (by kernel_rfl) rfl #[.pointer (some ⟨g, 0, none⟩)] (by rfl) rfl rfl (by (try simp only [List.map_toArray, List.map_cons, List.map_nil]); first | done | rfl) ?_
    refine (HLEFT.out V2 (HAW.out.keep HV2.out)).mono ?_
    rintro e V4 ⟨rfl, hb4⟩
    refine ⟨_, rfl, ?_⟩
    refine hK.out _ _ ⟨blk_below HS2.out.1 hb4, blk_below HS2.out.2 hb4⟩ (fun hHeld2 => ?_)
    have HV4 := Aside0.mk (HV2.out.trans (hb4.mono HV2.out.size))
    have HS4 := Aside0.mk (And.intro (blk_below HS2.out.1 hb4) (blk_below HS2.out.2 hb4))
    have HTOP := Aside0.mk (top_int V4 (HAW.out.keep HV4.out))
    rw [← HTP.out] at HTOP
    clear hb4
    clear hK hHeld2
    refine norm_ (a' := ?_) ?_ ?_
    rotate_left
    · show Act.put _ (some 49) _ = _
      simp only [pt_, pn_, sz_, ss_, i64_w, i32_w]
      rfl
    refine pure_ (i := 17) (N := some 54) (v := ?_) (a' := ?_) #[true, true, true, true, true, true, true, true, true, true, true, true, true, true, true, true, true, true, false, false, false, false, false, false, false, false, false] rfl rfl (by kernel_rfl) (fun _ _ _ h => h) (Or.inl ⟨by rfl, ?_⟩) ?_ ?_
    rotate_left
    · intro w'
      (go_simp); (with_reducible rfl)
    rotate_left
    · simp only [pt_, pn_, sz_, ss_, i64_w, i32_w]; rfl
    refine pure_ (i := 18) (N := some 55) (v := ?_) (a' := ?_) #[true, true, true, true, true, true, true, true, true, true, true, true, true, true, true, true, true, true, true, false, false, false, false, false, false, false, false] rfl rfl (by kernel_rfl) (fun _ _ _ h => h) (Or.inl ⟨by rfl, ?_⟩) ?_ ?_
    rotate_left
    · intro w'
      (go_simp); (with_reducible rfl)
    rotate_left
    · simp only [pt_, pn_, sz_, ss_, i64_w, i32_w]; rfl
    refine pure_ (i := 19) (N := some 56) (v := ?_) (a' := ?_) #[true, true, true, true, true, true, true, true, true, true, true, true, true, true, true, true, true, true, true, true, false, false, false, false, false, false, false] rfl rfl (by kernel_rfl) (fun _ _ _ h => h) (Or.inl ⟨by rfl, ?_⟩) ?_ ?_
    rotate_left
    · intro w'
      (go_simp); (with_reducible rfl)
    rotate_left
    · simp only [pt_, pn_, sz_, ss_, i64_w, i32_w]; rfl
    refine pure_ (i := 20) (N := some 57) (v := ?_) (a' := ?_) #[true, true, true, true, true, true, true, true, true, true, true, true, true, true, true, true, true, true, true, true, true, false, false, false, false, false, false] rfl rfl (by kernel_rfl) (fun _ _ _ h => h) (Or.inl ⟨by rfl, ?_⟩) ?_ ?_
    rotate_left
    · intro w'
      (go_simp); (with_reducible rfl)
    rotate_left
    · simp only [pt_, pn_, sz_, ss_, i64_w, i32_w]; rfl
    refine pure_ (i := 22) (N := some 59) (v := ?_) (a' := ?_) #[true, true, true, true, true, true, true, true, true, true, true, true, true, true, true, true, true, true, true, true, true, false, true, false, false, false, false] rfl rfl (by kernel_rfl) (fun _ _ _ h => h) (Or.inl ⟨by rfl, ?_⟩) ?_ ?_
    rotate_left
    · intro w'
      (go_simp); (with_reducible rfl)
    rotate_left
    · simp only [pt_, pn_, sz_, ss_, i64_w, i32_w]; rfl
    refine take_ (i := 23) (N := some 60) (v := .int .i64 r.top) (a' := ?a23q1) #[true, true, true, true, true, true, true, true, true, true, true, true, true, true, true, true, true, true, true, true, true, false, true, true, false, false, false] rfl rfl (by kernel_rfl) (fun _ _ _ h => h) (Or.inl ⟨by rfl, fun w' hw' => ?y23q1⟩) HS4.out ?ha23q1 ?h23q1
    case y23q1 =>
      (have hc := (blk_cell hw'.1 1).trans HRV.out.c1; (go_simp; first | done | with_reducible rfl))
    case ha23q1 => (simp only [pt_, pn_, sz_, ss_, i64_w, i32_w]; rfl)
    refine one_ (i := 21) (N := some 58) #[true, true, true, true, true, true, true, true, true, true, true, true, true, true, true, true, true, true, true, true, true, true, true, true, false, false, false] rfl rfl (by kernel_rfl) (by decide) (fun K hK => ?_)
    refine goes_ Try.func65 (by kernel_rfl) rfl #[.pointer (some ⟨g, 0, none⟩)] (by rfl) rfl rfl (by (try simp only [List.map_toArray, List.map_cons, List.map_nil]); first | done | rfl) ?_
    refine (HTOP.out).mono ?_
    rintro e V5 ⟨rfl, rfl⟩
    refine ⟨_, rfl, ?_⟩
    refine hK.out _ _ HS4.out (fun hHeld2 => ?_)
    clear hK hHeld2
    refine norm_ (a' := ?_) ?_ ?_
    rotate_left
    · show Act.put _ (some 58) _ = _
      simp only [pt_, pn_, sz_, ss_, i64_w, i32_w]
      rfl
    refine pure_ (i := 24) (N := some 61) (v := ?_) (a' := ?_) #[true, true, true, true, true, true, true, true, true, true, true, true, true, true, true, true, true, true, true, true, true, true, true, true, true, false, false] rfl rfl (by kernel_rfl) (fun _ _ _ h => h) (Or.inl ⟨by rfl, ?_⟩) ?_ ?_
    rotate_left
    · intro w'
      (go_simp); (with_reducible rfl)
    rotate_left
    · simp only [pt_, pn_, sz_, ss_, i64_w, i32_w]; rfl
    refine pure_ (i := 25) (N := some 62) (v := ?_) (a' := ?_) #[true, true, true, true, true, true, true, true, true, true, true, true, true, true, true, true, true, true, true, true, true, true, true, true, true, true, false] rfl rfl (by kernel_rfl) (fun _ _ _ h => h) (Or.inl ⟨by rfl, ?_⟩) ?_ ?_
    rotate_left
    · intro w'
      (go_simp); (with_reducible rfl)
    rotate_left
    · simp only [pt_, pn_, sz_, ss_, i64_w, i32_w]; rfl
    refine one_ (i := 26) (N := none) #[true, true, true, true, true, true, true, true, true, true, true, true, true, true, true, true, true, true, true, true, true, true, true, true, true, true, true] rfl rfl (by kernel_rfl) (by decide) (fun K hK => ?_)
    rw [if_pos (by rfl)]
    have hb9 := blk_below HBL.out HV4.out
    have c9 := (blk_cell hb9 0).trans rfl
    have f9 := blk_frozen hb9 0
    unfold Oper.wp
    rw [show (execOp _ _).run Try.prog V4 = .ok .skip (V4.setCell ⟨w.heap.size + 1, 0, none⟩ (.bool true)) from (by go_simp)]
    refine hK.out _ _ ⟨(blk_far HS4.out.1 (p := ⟨w.heap.size + 1, 0, none⟩) (by show w.heap.size ≠ w.heap.size + 1; omega) _), (blk_far HS4.out.2 (p := ⟨w.heap.size + 1, 0, none⟩) (by show w.heap.size + 1 + 1 ≠ w.heap.size + 1; omega) _)⟩ (fun hHeld2 => ?_)
    clear hK hHeld2
    refine norm_ (a' := ?_) ?_ ?_
    rotate_left
    · show Act.put _ none _ = _
      simp only [pt_, pn_, sz_, ss_, i64_w, i32_w]
      rfl
    first | (refine done_ (by kernel_rfl) ?_) | skip
    refine NoPanic.normal ?_
    gi_wp2
    have hDw : w.heap.size < D := by have := HSZ.out; omega
    have hKD : (V4.setCell ⟨w.heap.size + 1, 0, none⟩ (.bool true)).heap[D]? = some (.deferred (some [])) := (Below.heap_setCell V4 ⟨w.heap.size + 1, 0, none⟩ (.bool true) D (by have := HSZ.out; show D ≠ w.heap.size + 1; omega)).trans (blk_below HK.out HV4.out)
    have hP9 : (V4.setCell ⟨w.heap.size + 1, 0, none⟩ (.bool true)).heap[w.heap.size + 1]? = some (.cells #[.bool true] 4 (0, 0)) := blk_put hb9 0 (.bool true) rfl
    have hP10 : ((V4.setCell ⟨w.heap.size + 1, 0, none⟩ (.bool true)).putObj D (.deferred none)).heap[w.heap.size + 1]? = some (.cells #[.bool true] 4 (0, 0)) := (World.putObj_heap_other (by have := HSZ.out; omega)).trans hP9
    have hB9 : Below w.heap.size w (V4.setCell ⟨w.heap.size + 1, 0, none⟩ (.bool true)) := (HB.out.trans (HV4.out.mono HB.out.size)).setCell (p := ⟨w.heap.size + 1, 0, none⟩) (by show w.heap.size ≤ w.heap.size + 1; omega) _
    refine ⟨by simp, .inl ⟨_, _, rfl, run_takeDeferred hKD, ?_⟩⟩
    exact ⟨_, results_bool rfl rfl ((blk_cell hP10 0).trans rfl), rfl, hB9.trans (belowK_b (w := w) (Nat.le_refl _) _ D _ _ (by omega) hKD rfl rfl)⟩
end Go.Proofs.Ytpfikmchimlneaa.Ar
