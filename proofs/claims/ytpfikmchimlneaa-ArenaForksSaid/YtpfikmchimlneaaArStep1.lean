/- law08's step: Take. -/
import Derived.Test.YtpfikmchimlneaaArStep0
set_option linter.unusedVariables false
set_option linter.unusedSimpArgs false
namespace Go.Proofs.Ytpfikmchimlneaa.Ar
open Go.Proofs.YtpfikmchimlneaaW.Mine Go.RowKit Go.Proofs.YtpfikmchimlneaaW.PrintWords Go.Proofs.YtpfikmchimlneaaW.PrintWords.Kd Go.Proofs.YtpfikmchimlneaaW.PrintLast Go.Proofs.YtpfikmchimlneaaW.PrintMore Go.Proofs.YtpfikmchimlneaaW.Sl Go.Proofs.YtpfikmchimlneaaW.Ar
variable {B g : Nat} {w W V W' : World} {X X' : Array Value} {r r' : Rf} {v v' : Value} {s s' : St Int}
/-- step's three blocks -/
structure SB (p : Nat) (X : Array Value) (D I N : Int) (W : World) : Prop where
  hx : W.heap[p]? = some (.cells X 42 (0, 0))
  hd : W.heap[p + 1]? = some (.cells #[.int .i64 D, .int .i64 I, .int .i64 N] 46 (0, 0))
  hz : W.heap[p + 2]? = some (.cells Try.zeroCells42 42 (0, 0))
theorem blkOf (h : AI B W g v s) (ho : Only g v.ownBlock W W') {k : Nat} {cs : Array Value} {t : TypeId} (hb : W.heap[k]? = some (.cells cs t (0, 0))) (h1 : t ≠ 110) (h2 : t ≠ 142) : W'.heap[k]? = some (.cells cs t (0, 0)) :=
  (ho.block k (blk_lt hb) (fun e => by subst e; exact blk_ne hb h.blk h1 rfl) (fun e => by obtain ⟨cells, hc⟩ := R_typed h.row k e.symm; exact blk_ne hb hc h2 rfl)).trans hb
theorem SB.below {p : Nat} {D I N : Int} (h : SB p X D I N W) (hb : Below W.heap.size W W') : SB p X D I N W' := ⟨blk_below h.hx hb, blk_below h.hd hb, blk_below h.hz hb⟩
theorem SB.only {p : Nat} {D I N : Int} (h : SB p X D I N W) (hA : AI B W g v s) (ho : Only g v.ownBlock W W') : SB p X D I N W' :=
  ⟨blkOf hA ho h.hx (by decide) (by decide), blkOf hA ho h.hd (by decide) (by decide), blkOf hA ho h.hz (by decide) (by decide)⟩
theorem ini3 (w : World) (X : Array Value) (D I N : Int) : ∃ W, ((w.alloc (.cells X 42)).alloc (.cells #[.int .i64 D, .int .i64 I, .int .i64 N] 46)).alloc (.cells Try.zeroCells42 42) = W ∧ SB w.heap.size X D I N W ∧ Below w.heap.size w W := by
  refine ⟨_, rfl, ⟨blk_alloc (blk_alloc (heap_alloc_new w _) _) _, ?_, ?_⟩, (((Below.refl w.heap.size w).alloc (Nat.le_refl _) _).alloc (by simp) _).alloc (by simp; omega) _⟩
  · have := blk_alloc (heap_alloc_new (w.alloc (.cells X 42)) (.cells #[.int .i64 D, .int .i64 I, .int .i64 N] 46)) (.cells Try.zeroCells42 42)
    simpa using this
  · have := heap_alloc_new ((w.alloc (.cells X 42)).alloc (.cells #[.int .i64 D, .int .i64 I, .int .i64 N] 46)) (.cells Try.zeroCells42 42)
    simpa using this
def stepPost (B : Nat) (w : World) (g : Nat) (v : Value) (s' : St Int) (r' : Rf) (e : Ending) (w' : World) : Prop := ∃ X', e = .returned (.tuple #[.agg X', .bool true]) ∧ RV B w' X' r' ∧ Does B w g v s' w'
theorem onlyThen {r0 : Option Nat} (h : Only g r0 w W) (hb : Below W.heap.size W V) : Only g r0 w V :=
  ⟨hb.os.trans h.os, hb.tape.trans h.tape, hb.output.trans h.output, Nat.le_trans h.size hb.size, fun k hk h1 h2 => (hb.block k (Nat.lt_of_lt_of_le hk h.size)).trans (h.block k hk h1 h2)⟩
theorem rowset (h : AI B V g v s) {k : Nat} {cs : Array Value} (hb : V.heap[k]? = some (.cells cs 42 (0, 0))) (Y : Array Value) : AI B (V.setRow k Y) g v s :=
  h.grown (setRow_grown V k Y) (fun e => by injection e with e; subst e; exact blk_ne hb h.blk (by decide) rfl) (fun j hj e => by injection e with e; subst e; obtain ⟨cells, hc⟩ := R_typed h.row j hj; exact blk_ne hb hc (by decide) rfl)
/-- the end of a step -/
theorem step_fin (hA : AI B V g v' s') (hO : Only g v.ownBlock w V) (hS : Same w v v') (hR : RV B V X' r') (hz : V.heap[w.heap.size + 2]? = some (.cells Try.zeroCells42 42 (0, 0))) :
    RV B (V.setRow (w.heap.size + 2) X') X' r' ∧ Does B w g v s' (V.setRow (w.heap.size + 2) X') :=
  ⟨hR.row hz X', ⟨v', rowset hA hz X', hO.own (setRow_grown V (w.heap.size + 2) X') (fun k e => by injection e with e; omega), hS⟩⟩
/-- a struct is laid anew -/
theorem step_mid (hA : AI B V g v' s') (hR : RV B V X' r') :
    AI B ((V.alloc (.cells Try.zeroCells42 42)).setRow V.heap.size X') g v' s' ∧ RV B ((V.alloc (.cells Try.zeroCells42 42)).setRow V.heap.size X') X' r' ∧ ((V.alloc (.cells Try.zeroCells42 42)).setRow V.heap.size X').heap[V.heap.size]? = some (.cells X' 42 (0, 0)) ∧
      Below V.heap.size V ((V.alloc (.cells Try.zeroCells42 42)).setRow V.heap.size X') := by
  have hn := heap_alloc_new V (.cells Try.zeroCells42 42)
  have hb := (Below.refl V.heap.size V).alloc (Nat.le_refl _) (.cells Try.zeroCells42 42)
  exact ⟨rowset (hA.keep hb) hn X', (hR.keep hb).row hn X', setRow_heap _ _ _ _ _ _ hn, hb.grown (setRow_grown _ _ _) (by simp) (fun k e => by injection e with e; omega)⟩
set_option maxHeartbeats 8000000 in
set_option maxRecDepth 100000 in
theorem step_take (w : World) (hA : AI B w g v s) (hR : RV B w X r) (hBw : B ≤ w.heap.size) (hbd : Bd s) (I N i c : Int) (ha : aTake s N = some (s', i, c)) (hr : rtake r N = some (r', i, c)) :
    Calls Try.prog 20 #[.pointer (some ⟨g, 0, none⟩), .agg X, .agg #[.int .i64 0, .int .i64 I, .int .i64 N]] w (stepPost B w g v s' r') := by
  obtain ⟨W, hW, hSB, hb⟩ := ini3 w X 0 I N
  have HW := Aside0.mk hW
  have HSB := Aside0.mk hSB
  have HA := Aside0.mk (hA.keep hb)
  have HRV := Aside0.mk (hR.keep hb)
  have HO := Aside0.mk (Only.of_below (g := g) (r := v.ownBlock) hb)
  have HBB := Aside0.mk (Nat.le_trans hBw hb.size)
  have HBD := Aside0.mk hbd
  have c0 := (blk_cell hSB.hd 0).trans rfl
  have c1 := (blk_cell hSB.hd 1).trans rfl
  have c2 := (blk_cell hSB.hd 2).trans rfl
  have HTA := Aside0.mk ha
  have HTR := Aside0.mk hr
  clear hSB hb hA hbd ha hr hBw
  have hXs := hR.sz
  clear hR
  have HXS := Aside0.mk hXs
  clear hXs
  go_enter Try.func20, Try.ntmps20
  go_wp2_with (first
    | (go_at_call 24; refine (take_any W HA.out HBD.out N i c s' HTA.out).mono ?_; rintro e w1 ⟨rfl, hd⟩; obtain ⟨v1, hA1, hO1, hS1⟩ := hd.out; have hs1 := HSB.out.only HA.out hO1; have HRV1 := Aside0.mk (HRV.out.only HA.out hO1); have HO1 := Aside0.mk (HO.out.trans (.refl _ _) hO1); have HS1 := Aside0.mk (hS1.mono HO.out.size); have HSB1 := Aside0.mk hs1; have HA1 := Aside0.mk hA1; have HBB1 := Aside0.mk (Nat.le_trans HBB.out hO1.size); have d1 := (blk_cell hs1.hd 1).trans rfl; have d2 := (blk_cell hs1.hd 2).trans rfl; clear hd hA1 hO1 hS1 hs1)
    | (refine wpList_load_row rfl 42 (.tmp 4) rfl _ rfl 42 X (0, 0) _ HSB1.out.hx Try.underlying42 rfl (by rw [HXS.out]; exact info42) ?_)
    | (go_at_call 56; refine (ref_take w1 HRV1.out HBB1.out N i c r' HTR.out).mono ?_; rintro e w2 ⟨X2, rfl, hR2, hB2, _⟩; have HR2 := Aside0.mk hR2; obtain ⟨m1, m2, m3, m4⟩ := step_mid (HA1.out.keep hB2) hR2; have HM1 := Aside0.mk m1; have HM2 := Aside0.mk m2; have HM3 := Aside0.mk m3; have HM4 := Aside0.mk m4; have HSB2 := Aside0.mk ((HSB1.out.below hB2).below m4); have HO2 := Aside0.mk (onlyThen (onlyThen HO1.out hB2) m4); have HN2 := Aside0.mk (heap_alloc_new w2 (.cells Try.zeroCells42 42)); clear hR2 hB2 m1 m2 m3 m4)
    | (refine wpList_store_row rfl 42 (.tmp 10) (.tmp 40) rfl _ X2 rfl rfl 42 Try.zeroCells42 HN2.out (by rw [HR2.out.sz]; exact info42) (by rw [HR2.out.sz]; exact zero42) HR2.out.one ?_)
    | (refine wpList_load_row rfl 42 (.tmp 10) rfl _ rfl 42 X2 (0, 0) _ HM3.out Try.underlying42 rfl (by rw [HR2.out.sz]; exact info42) ?_)
    | (refine wpList_store_row rfl 42 (.tmp 6) (.tmp 43) rfl _ X2 rfl rfl 42 Try.zeroCells42 HSB2.out.hz (by rw [HR2.out.sz]; exact info42) (by rw [HR2.out.sz]; exact zero42) HR2.out.one ?_)
    | fail)
  obtain ⟨f1, f2⟩ := step_fin HM1.out HO2.out HS1.out HM2.out HSB2.out.hz
  exact bodyPost_ret (results_42a rfl rfl rfl HR2.out.sz (setRow_heap _ _ _ X2 _ _ HSB2.out.hz)) rfl ⟨X2, rfl, f1, f2⟩
end Go.Proofs.Ytpfikmchimlneaa.Ar
