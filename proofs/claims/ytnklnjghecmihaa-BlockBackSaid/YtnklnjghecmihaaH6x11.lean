-- written by a program of this session (wip/myprint.py), over the kit's printer and the session's own contracts
import Derived.Test.YtnklnjghecmihaaH6x0
import Derived.Test.YtnklnjghecmihaaH6P0
import Derived.Test.YtnklnjghecmihaaH6x5
import Derived.Test.YtnklnjghecmihaaH6x6
import Derived.Test.YtnklnjghecmihaaH6x8
import Derived.Test.YtnklnjghecmihaaH6P1
import Derived.Test.YtnklnjghecmihaaH6x10
namespace Go.Proofs.Ytnklnjghecmihaa.H6
open Go.RowKit Go.Proofs.YtnklnjghecmihaaW.PrintWords Go.Proofs.YtnklnjghecmihaaW.PrintLast Go.Proofs.YtnklnjghecmihaaW.PrintMore Go.Proofs.YtnklnjghecmihaaW.Mine
attribute [local go_sem] max2_int min2_int max_two min_two max_three min_three max_four min_four max2_str min2_str binOp_gtr_str binOp_leq_str binOp_geq_str   -- for this text's walks alone
set_option linter.unusedVariables false
set_option linter.unusedSimpArgs false

/-! ### block_Unpack: function 17 -/
set_option maxHeartbeats 2000000 in
set_option maxRecDepth 100000 in
/-- The deferred closure of a frame that returns finds nothing. -/
theorem block_Unpack.idle (p q : Addr) (w : World) :
    CallsD Try.prog 72 #[.pointer (some p), .pointer (some q)] .returning w fun e u' w' => e = .returned (.tuple #[]) ∧ u' = .returning ∧ w' = w := by
  have hnil : ∀ w : World, Sem.run Try.prog (binOp BinOp.neq 20 .nilIface .nilIface) w = .ok (.bool false) w := fun _ => by kernel_rfl
  refine callsD_of_wpS Try.func72 rfl fun c₀ cs hu => ?_
  apply wpS_seq
  apply wpS_region
  simp [wpOpsS, go_sem, recoverD, hu, Try.ntmps72, Exit.thenS]
  apply wpS_seq
  apply wpS_region
  simp [wpOpsS, go_sem, Exit.thenS, hnil]
  refine wpS_cond (t := false) (by simp [Act.eval, Array.replicate]) ?_
  simp only [Bool.false_eq_true, if_false]
  refine wpS_of_wp (wp_skip ?_)
  cases c₀
  simp_all [bodyPostS, results, Try.results72]
/-- what a fault is, on its way up -/
def block_Unpack.ch (e : Int) : List PanicEntry := [⟨.iface 100 (.agg #[.int .i64 e]), false, false⟩]
set_option maxHeartbeats 8000000 in
set_option maxRecDepth 100000 in
theorem block_Unpack.must_gives (a0 : Int) (h : a0 ≠ 0) (w : World) : Calls Try.prog 75 #[.int .i64 a0] w fun e w' => e = .panicked (block_Unpack.ch a0) ∧ Drawn0 w w' := by
  have hu100 := Try.underlying100
  have c2b1 : (a0 != 0) = true := bne_iff_ne.mpr h
  have c2b0 : (a0 == 0) = false := beq_eq_false_iff_ne.mpr h
  clear h
  go_enter Try.func75, Try.ntmps75
  go_wp2
  exact ⟨rfl, rfl, Drawn0.refl _⟩
set_option maxHeartbeats 8000000 in
set_option maxRecDepth 100000 in
theorem block_Unpack.num_gives (k g : Nat) (s : ByteArray) (n : Int) (rest : ByteArray) (e : Int) (w0 w : World) (hI : IsS104 w0 w g s) (hB : Below w0.heap.size w0 w) (h : word_TakeNum.f k s = some (n, rest, e)) (he : e ≠ 0) :
    Calls Try.prog 73 #[.pointer (some ⟨g, 0, none⟩)] w fun e' w' => e' = .panicked (block_Unpack.ch e) ∧ Below w0.heap.size w0 w' ∧ KeepBut w w' g none := by
  have HT := Aside0.mk h
  have HE := Aside0.mk he
  have HI0 := Aside0.mk hI
  have HB := Aside0.mk hB
  have HK := Aside0.mk (KeepBut.refl w g none)
  clear hI hB
  have HG := HI0.out.1
  have c0 := cellS104_0 HG
  have f0 := blk_frozen HG 0
  clear h he HG
  go_enter Try.func73, Try.ntmps73
  go_wp2_with (first
    | (go_at_call 124; refine (word_TakeNum.calls k s n rest e _ HT.out).mono ?_; rintro e' w' ⟨rfl, ⟨nd, rfl⟩⟩)
    | (go_at_call 75; refine (block_Unpack.must_gives e HE.out _).mono ?_; rintro e' w' ⟨rfl, ⟨nd2, rfl⟩⟩))
  exact ⟨rfl, rfl, (by repeat (first | (with_reducible first | exact HB.out | apply y1_ | apply y2_ | apply y3_) | exact HB.out)), (by repeat (first | (with_reducible first | exact HK.out | apply keep_drewN | apply keep_drew | apply keep_alloc) | exact HK.out))⟩
set_option maxHeartbeats 8000000 in
set_option maxRecDepth 100000 in
theorem block_Unpack.text_gives (k g : Nat) (s : ByteArray) (m : Int) (n rest : ByteArray) (e : Int) (w0 w : World) (hI : IsS104 w0 w g s) (hB : Below w0.heap.size w0 w) (h : word_TakeText.f k s m = some (n, rest, e)) (he : e ≠ 0) :
    Calls Try.prog 125 #[.pointer (some ⟨g, 0, none⟩), .int .i64 m] w fun e' w' => e' = .panicked (block_Unpack.ch e) ∧ Below w0.heap.size w0 w' ∧ KeepBut w w' g none := by
  have HT := Aside0.mk h
  have HE := Aside0.mk he
  have HI0 := Aside0.mk hI
  have HB := Aside0.mk hB
  have HK := Aside0.mk (KeepBut.refl w g none)
  clear hI hB
  have HG := HI0.out.1
  have c0 := cellS104_0 HG
  have f0 := blk_frozen HG 0
  clear h he HG
  go_enter Try.func125, Try.ntmps125
  go_wp2_with (first
    | (go_at_call 153; refine (word_TakeText.calls k s m n rest e _ HT.out).mono ?_; rintro e' w' ⟨rfl, ⟨nd, rfl⟩⟩)
    | (go_at_call 75; refine (block_Unpack.must_gives e HE.out _).mono ?_; rintro e' w' ⟨rfl, ⟨nd2, rfl⟩⟩))
  exact ⟨rfl, rfl, (by repeat (first | (with_reducible first | exact HB.out | apply y1_ | apply y2_ | apply y3_) | exact HB.out)), (by repeat (first | (with_reducible first | exact HK.out | apply keep_drewN | apply keep_drew | apply keep_alloc) | exact HK.out))⟩
set_option maxHeartbeats 8000000 in
set_option maxRecDepth 100000 in
/-- an entry whose count gives up -/
theorem block_Unpack.ent_num (k g : Nat) (s a1 : ByteArray) (a2 : Bool) (n : Int) (rest : ByteArray) (e : Int) (w0 w : World) (hI : IsS104 w0 w g s) (hB : Below w0.heap.size w0 w) (h : word_TakeNum.f k s = some (n, rest, e)) (he : e ≠ 0) :
    Calls Try.prog 74 #[.pointer (some ⟨g, 0, none⟩), .string a1, .bool a2] w fun e' w' => e' = .panicked (block_Unpack.ch e) ∧ Below w0.heap.size w0 w' ∧ KeepBut w w' g none := by
  have hu25 := Try.underlying25
  have HT := Aside0.mk h
  have HE := Aside0.mk he
  have HI0 := Aside0.mk hI
  have HB := Aside0.mk hB
  have HK := Aside0.mk (KeepBut.refl w g none)
  clear hI hB
  clear h he
  go_enter Try.func74, Try.ntmps74
  go_wp2_with (first
    | ((with_reducible refine gate_dst (N := 6) rfl ?_); refine box_event ?hg (N := 6) ?hd (cs := #[.string (⟨#[]⟩ : ByteArray), .string (⟨#[]⟩ : ByteArray)]) (t := 25) ?hr ?_; (case hd => rfl); (case hg => rfl); (case hr => first | (go_simp; done) | (go_simp; rfl)); intro gb113 hg w6 hbox hb; have n0_ := Aside0.mk (IsS104.below (by repeat (first | (with_reducible first | exact HI0.out | apply IsS104.alloc | apply IsS104.drewN | apply IsS104.drew) | exact HI0.out)) hb); have n1_ := Aside0.mk (KeepBut.trans (by repeat (first | (with_reducible first | exact HK.out | apply keep_drewN | apply keep_drew | apply keep_alloc) | exact HK.out)) (KeepBut.of_below hb g none) (.inl rfl)); have n2_ := Aside0.mk (below_step (by repeat (first | (with_reducible first | exact HB.out | apply y1_ | apply y2_ | apply y3_) | exact HB.out)) hb); clear HI0; clear HK; clear HB; have HI0 := n0_; have HK := n1_; have HB := n2_; clear n0_ n1_ n2_; clear hb hbox hg)
    | (go_at_call 73; refine (block_Unpack.num_gives k g s n rest e w0 _ (by repeat (first | (with_reducible first | exact HI0.out | apply IsS104.alloc | apply IsS104.drewN | apply IsS104.drew) | exact HI0.out)) (by repeat (first | (with_reducible first | exact HB.out | apply y1_ | apply y2_ | apply y3_) | exact HB.out)) HT.out HE.out).mono ?_; rintro e4 w4 ⟨rfl, hb, hk⟩; have n0_ := Aside0.mk (KeepBut.trans (by repeat (first | (with_reducible first | exact HK.out | apply keep_drewN | apply keep_drew | apply keep_alloc) | exact HK.out)) hk (.inl rfl)); have n1_ := Aside0.mk hb; clear HK; clear HB; have HK := n0_; have HB := n1_; clear n0_ n1_; clear hb hk))
  exact ⟨rfl, rfl, (by repeat (first | (with_reducible first | exact HB.out | apply y1_ | apply y2_ | apply y3_) | exact HB.out)), (by repeat (first | (with_reducible first | exact HK.out | apply keep_drewN | apply keep_drew | apply keep_alloc) | exact HK.out))⟩
set_option maxHeartbeats 8000000 in
set_option maxRecDepth 100000 in
/-- an entry that says more than there is ahead of it -/
theorem block_Unpack.ent_more (k g : Nat) (s a1 : ByteArray) (a2 : Bool) (n : Int) (rest : ByteArray) (w0 w : World) (hI : IsS104 w0 w g s) (hB : Below w0.heap.size w0 w) (h : block_reader_num.f k s = some (n, rest)) (he : n > (a1.size : Int)) :
    Calls Try.prog 74 #[.pointer (some ⟨g, 0, none⟩), .string a1, .bool a2] w fun e' w' => e' = .panicked (block_Unpack.ch 3) ∧ Below w0.heap.size w0 w' ∧ KeepBut w w' g none := by
  have hu25 := Try.underlying25
  have HT := Aside0.mk h
  have c8b0 : decide ((a1.size : Int) < n) = true := decide_eq_true he
  have HI0 := Aside0.mk hI
  have HB := Aside0.mk hB
  have HK := Aside0.mk (KeepBut.refl w g none)
  clear hI hB
  clear h he
  go_enter Try.func74, Try.ntmps74
  go_wp2_with (first
    | ((with_reducible refine gate_dst (N := 6) rfl ?_); refine box_event ?hg (N := 6) ?hd (cs := #[.string (⟨#[]⟩ : ByteArray), .string (⟨#[]⟩ : ByteArray)]) (t := 25) ?hr ?_; (case hd => rfl); (case hg => rfl); (case hr => first | (go_simp; done) | (go_simp; rfl)); intro gb113 hg w6 hbox hb; have n0_ := Aside0.mk (IsS104.below (by repeat (first | (with_reducible first | exact HI0.out | apply IsS104.alloc | apply IsS104.drewN | apply IsS104.drew) | exact HI0.out)) hb); have n1_ := Aside0.mk (KeepBut.trans (by repeat (first | (with_reducible first | exact HK.out | apply keep_drewN | apply keep_drew | apply keep_alloc) | exact HK.out)) (KeepBut.of_below hb g none) (.inl rfl)); have n2_ := Aside0.mk (below_step (by repeat (first | (with_reducible first | exact HB.out | apply y1_ | apply y2_ | apply y3_) | exact HB.out)) hb); clear HI0; clear HK; clear HB; have HI0 := n0_; have HK := n1_; have HB := n2_; clear n0_ n1_ n2_; clear hb hbox hg)
    | (go_at_call 73; refine (block_reader_num.calls k g s n rest w0 _ (by repeat (first | (with_reducible first | exact HI0.out | apply IsS104.alloc | apply IsS104.drewN | apply IsS104.drew) | exact HI0.out)) (by repeat (first | (with_reducible first | exact HB.out | apply y1_ | apply y2_ | apply y3_) | exact HB.out)) HT.out).mono ?_; rintro e4 w4 ⟨rfl, hi, hb, hk⟩; have n0_ := Aside0.mk hi; have n1_ := Aside0.mk (KeepBut.trans (by repeat (first | (with_reducible first | exact HK.out | apply keep_drewN | apply keep_drew | apply keep_alloc) | exact HK.out)) hk (.inl rfl)); have n2_ := Aside0.mk hb; clear HI0; clear HK; clear HB; have HI0 := n0_; have HK := n1_; have HB := n2_; clear n0_ n1_ n2_; clear hi hb hk)
    | (go_at_call 75; refine (block_Unpack.must_gives 3 (by decide) _).mono ?_; rintro e4 w4 ⟨rfl, ⟨nd2, rfl⟩⟩))
  exact ⟨rfl, rfl, (by repeat (first | (with_reducible first | exact HB.out | apply y1_ | apply y2_ | apply y3_) | exact HB.out)), (by repeat (first | (with_reducible first | exact HK.out | apply keep_drewN | apply keep_drew | apply keep_alloc) | exact HK.out))⟩
/-- is the order wrong -/
def block_Unpack.ordE (k : Nat) (a1 key : ByteArray) (a2 : Bool) (n : Int) : Option Bool :=
  if a2 = true then (key_Shared.f k a1 key).bind fun c => some (c != n) else if Op.bytesLess a1.toList key.toList = true then (key_Shared.f k a1 key).bind fun c => some (c != n) else some true
/-- what makes an entry give up behind its key -/
def block_Unpack.late (k : Nat) (s2 : ByteArray) (e : Int) (x : Bool) : Prop := (x = true ∧ e = 16) ∨ (x = false ∧ e ≠ 0 ∧ ∃ t3 s3, word_TakeText.f k s2 4096 = some (t3, s3, e))
theorem block_Unpack.pgoes_ {P : Program} {ops : Array Oper} {Q : Exit → Act → World → Prop} {oi : Oper} {N : Option Tmp} {a : Act} {w : World} {K : Act → World → Prop} {f : FuncId} {fn : Func} {os : Array Operand} {ts : Array TypeId} (hf : P.funcs[f]? = some fn) (hname : (fn.name == "runtime.NumGoroutine") = false) (hb : fn.body.isSome = true) (args : Array Value)
    (hw : Region.wanted oi (yielded ops a.tmps) = true) (hop : oi.op = .call { callee := .value (.func f), args := os, argTypes := ts }) (hargs : os.map a.eval = args)
    (h : Calls P f args w fun e w' => ∃ c, e = .panicked c ∧ Q (.panic c) a w') : if Region.wanted oi (yielded ops a.tmps) = true then Oper.wp P oi a w K Q else K (a.put N undef) w := by
  rw [if_pos hw]
  have he := enters_ hf hname hb args w
  have hrun : (execOp a.eval oi).run P w = .ok (.enter f args) w := by
    unfold execOp
    simp [hop, resolve, Deferred.ofValue, invoke, Act.eval, hargs, he]
  unfold Oper.wp
  rw [hrun, Oper.upon_enter]
  refine h.mono fun e w'' hh => ?_
  obtain ⟨v, rfl, hk⟩ := hh
  exact hk
set_option maxHeartbeats 8000000 in
set_option maxRecDepth 100000 in
/-- an entry that gives up behind its count -/
theorem block_Unpack.ent_late (k g : Nat) (s a1 : ByteArray) (a2 : Bool) (n : Int) (s1 t s2 : ByteArray) (e : Int) (w0 w : World) (hI : IsS104 w0 w g s) (hB : Below w0.heap.size w0 w) (h : block_reader_num.f k s = some (n, s1)) (h0 : 0 ≤ n) (hl : n ≤ (a1.size : Int))
    (hr : (word_TakeText.f k s1 256 = some (t, s2, e) ∧ e ≠ 0) ∨ (block_reader_text.f k s1 256 = some (t, s2) ∧ (a1.extract 0 (n : Int).toNat).size + t.size ≤ 9223372036854775807 ∧ ∃ x, block_Unpack.ordE k a1 ((a1.extract 0 (n : Int).toNat) ++ t) a2 n = some x ∧ block_Unpack.late k s2 e x)) :
    Calls Try.prog 74 #[.pointer (some ⟨g, 0, none⟩), .string a1, .bool a2] w fun e' w' => e' = .panicked (block_Unpack.ch e) ∧ Below w0.heap.size w0 w' ∧ KeepBut w w' g none := by
  have hu25 := Try.underlying25
  have HT := Aside0.mk h
  have HR := Aside0.mk hr
  have c8b0 : decide ((a1.size : Int) < n) = false := decide_eq_false (by omega)
  have c10b0 := eq_true h0
  have c10b1 : decide (0 ≤ n) = true := decide_eq_true h0
  have c11b0 := eq_true hl
  have c11b1 : decide (n ≤ (a1.size : Int)) = true := decide_eq_true hl
  have HI0 := Aside0.mk hI
  have HB := Aside0.mk hB
  have HK := Aside0.mk (KeepBut.refl w g none)
  clear hI hB
  clear h hr
  go_enter Try.func74, Try.ntmps74
  go_upto_region 4 with (first
    | ((with_reducible refine gate_dst (N := 6) rfl ?_); refine box_event ?hg (N := 6) ?hd (cs := #[.string (⟨#[]⟩ : ByteArray), .string (⟨#[]⟩ : ByteArray)]) (t := 25) ?hr ?_; (case hd => rfl); (case hg => rfl); (case hr => first | (go_simp; done) | (go_simp; rfl)); intro gb113 hg w6 hbox hb; have n0_ := Aside0.mk (IsS104.below (by repeat (first | (with_reducible first | exact HI0.out | apply IsS104.alloc | apply IsS104.drewN | apply IsS104.drew) | exact HI0.out)) hb); have n1_ := Aside0.mk (KeepBut.trans (by repeat (first | (with_reducible first | exact HK.out | apply keep_drewN | apply keep_drew | apply keep_alloc) | exact HK.out)) (KeepBut.of_below hb g none) (.inl rfl)); have n2_ := Aside0.mk (below_step (by repeat (first | (with_reducible first | exact HB.out | apply y1_ | apply y2_ | apply y3_) | exact HB.out)) hb); clear HI0; clear HK; clear HB; have HI0 := n0_; have HK := n1_; have HB := n2_; clear n0_ n1_ n2_; clear hb hbox hg)
    | (go_at_call 73; refine (block_reader_num.calls k g s n s1 w0 _ (by repeat (first | (with_reducible first | exact HI0.out | apply IsS104.alloc | apply IsS104.drewN | apply IsS104.drew) | exact HI0.out)) (by repeat (first | (with_reducible first | exact HB.out | apply y1_ | apply y2_ | apply y3_) | exact HB.out)) HT.out).mono ?_; rintro e4 w4 ⟨rfl, hi, hb, hk⟩; have n0_ := Aside0.mk hi; have n1_ := Aside0.mk (KeepBut.trans (by repeat (first | (with_reducible first | exact HK.out | apply keep_drewN | apply keep_drew | apply keep_alloc) | exact HK.out)) hk (.inl rfl)); have n2_ := Aside0.mk hb; clear HI0; clear HK; clear HB; have HI0 := n0_; have HK := n1_; have HB := n2_; clear n0_ n1_ n2_; clear hi hb hk))
  have n0_ := Aside0.mk (IsS104.drew HI0.out)
  have n1_ := Aside0.mk (keep_drew HK.out)
  have n2_ := Aside0.mk (below_drew1 HB.out)
  clear HI0; clear HK; clear HB; have HI0 := n0_; have HK := n1_; have HB := n2_; clear n0_ n1_ n2_
  refine start_ (n := 7) (S := fun w' => True) (ds := []) #[false, false, false, false, false, false, false] (by kernel_rfl) rfl rfl trivial (fun hHeld => ?_)
  refine pure_ (i := 0) (N := some 16) (v := ?_) (a' := ?_) #[true, false, false, false, false, false, false] rfl rfl (by kernel_rfl) (fun _ _ _ h => h) (Or.inl ⟨by rfl, ?_⟩) ?_ ?_
  rotate_left
  · intro w'
    (go_simp); (with_reducible rfl)
  rotate_left
  · simp only [pt_, pn_, sz_, ss_, i64_w, i32_w]
    rfl
  refine pure_ (i := 1) (N := some 17) (v := ?_) (a' := ?_) #[true, true, false, false, false, false, false] rfl rfl (by kernel_rfl) (fun _ _ _ h => h) (Or.inl ⟨by rfl, ?_⟩) ?_ ?_
  rotate_left
  · intro w'
    (go_simp); (with_reducible rfl)
  rotate_left
  · simp only [pt_, pn_, sz_, ss_, i64_w, i32_w]
    rfl
  refine pure_ (i := 2) (N := some 18) (v := ?_) (a' := ?_) #[true, true, true, false, false, false, false] rfl rfl (by kernel_rfl) (fun _ _ _ h => h) (Or.inl ⟨by rfl, ?_⟩) ?_ ?_
  rotate_left
  · intro w'
    (go_simp); (with_reducible rfl)
  rotate_left
  · simp only [pt_, pn_, sz_, ss_, i64_w, i32_w]
    rfl
  refine pure_ (i := 3) (N := some 19) (v := ?_) (a' := ?_) #[true, true, true, true, false, false, false] rfl rfl (by kernel_rfl) (fun _ _ _ h => h) (Or.inl ⟨by rfl, ?_⟩) ?_ ?_
  rotate_left
  · intro w'
    (go_simp); (with_reducible rfl)
  rotate_left
  · simp only [pt_, pn_, sz_, ss_, i64_w, i32_w]
    rfl
  refine one_ (i := 4) (N := some 20) #[true, true, true, true, true, false, false] rfl rfl (by kernel_rfl) (by decide) (fun K hK => ?_)
  rcases HR.out with ⟨ht, he⟩ | ⟨ht, hsz, x, hx, hlate⟩
  · clear HR hK
    refine block_Unpack.pgoes_ Try.func125 (by kernel_rfl) rfl #[.pointer (some ⟨g, 0, none⟩), .int .i64 256] (by rfl) rfl (by (try simp only [List.map_toArray, List.map_cons, List.map_nil]); first | done | rfl | (simp only [List.length_drop, List.length_take]; rfl)) ?_
    refine (block_Unpack.text_gives k g s1 256 t s2 e w0 _ (by repeat (first | (with_reducible first | exact HI0.out | apply IsS104.alloc | apply IsS104.drewN | apply IsS104.drew) | exact HI0.out)) (by repeat (first | (with_reducible first | exact HB.out | apply y1_ | apply y2_ | apply y3_) | exact HB.out)) ht he).mono ?_
    rintro e4 w4 ⟨rfl, hb, hk⟩
    exact ⟨_, rfl, rfl, rfl, hb, KeepBut.trans (by repeat (first | (with_reducible first | exact HK.out | apply keep_drewN | apply keep_drew | apply keep_alloc) | exact HK.out)) hk (.inl rfl)⟩
  · clear HR
    have HX := Aside0.mk hx
    have HL := Aside0.mk hlate
    have c13b9 : ¬ (9223372036854775807 < n.toNat + t.size) := (by have h_ := hsz; rw [ByteArray.size_extract] at h_; omega)
    have c13b0 := eq_true hsz
    have c13b1 : decide ((a1.extract 0 (n : Int).toNat).size + t.size ≤ 9223372036854775807) = true := decide_eq_true hsz
    have c13b2 : (9223372036854775807 < (a1.extract 0 (n : Int).toNat).size + t.size) = False := eq_false (Nat.not_lt.2 hsz)
    clear hx hlate hsz
    refine goes_ Try.func125 (by kernel_rfl) rfl #[.pointer (some ⟨g, 0, none⟩), .int .i64 256] (by rfl) rfl rfl (by (try simp only [List.map_toArray, List.map_cons, List.map_nil]); first | done | rfl | (simp only [List.length_drop, List.length_take]; rfl)) ?_
    refine (block_reader_text.calls k g s1 256 t s2 w0 _ (by repeat (first | (with_reducible first | exact HI0.out | apply IsS104.alloc | apply IsS104.drewN | apply IsS104.drew) | exact HI0.out)) (by repeat (first | (with_reducible first | exact HB.out | apply y1_ | apply y2_ | apply y3_) | exact HB.out)) ht).mono ?_
    clear ht
    rintro e4 w4 ⟨rfl, hi, hb, hk⟩
    refine ⟨_, rfl, ?_⟩
    have n0_ := Aside0.mk hi
    have n1_ := Aside0.mk (KeepBut.trans (by repeat (first | (with_reducible first | exact HK.out | apply keep_drewN | apply keep_drew | apply keep_alloc) | exact HK.out)) hk (.inl rfl))
    have n2_ := Aside0.mk hb
    clear HI0; clear HK; clear HB; have HI0 := n0_; have HK := n1_; have HB := n2_; clear n0_ n1_ n2_; clear hi hb hk
    refine hK.out _ _ trivial (fun hHeld => ?_)
    clear hK K
    refine norm_ (a' := ?_) ?_ ?_
    rotate_left
    · show Act.put _ (some 20) _ = _
      (simp only [pt_, pn_, sz_, ss_, i64_w, i32_w]); (rfl)
    refine pure_ (i := 5) (N := some 21) (v := ?_) (a' := ?_) #[true, true, true, true, true, true, false] rfl rfl (by kernel_rfl) (fun _ _ _ h => h) (Or.inl ⟨by rfl, ?_⟩) ?_ ?_
    rotate_left
    · intro w'
      (go_simp); (with_reducible rfl)
    rotate_left
    · simp only [pt_, pn_, sz_, ss_, i64_w, i32_w]
      rfl
    refine pure_ (i := 6) (N := some 8) (v := ?_) (a' := ?_) #[true, true, true, true, true, true, true] rfl rfl (by kernel_rfl) (fun _ _ _ h => h) (Or.inl ⟨by rfl, ?_⟩) ?_ ?_
    rotate_left
    · intro w'
      (go_simp); (with_reducible rfl)
    rotate_left
    · simp only [pt_, pn_, sz_, ss_, i64_w, i32_w]
      rfl
    (refine done_ (by kernel_rfl) ?_); (go_upto_region 5 with (fail)); (go_cut [35] (fun v35 wc => ∃ (x35 : Bool), v35 = .bool x35 ∧ Aside0 (block_Unpack.late k s2 e x35) ∧ Aside0 (IsS104 w0 wc g s2) ∧ Aside0 (KeepBut w wc g none) ∧ Aside0 (Below w0.heap.size w0 wc)))
    case first =>
      have h := HX.out
      clear HX
      unfold block_Unpack.ordE at h
      cases a2
      · rw [if_neg (by decide)] at h
        by_cases c20 : Op.bytesLess a1.toList ((a1.extract 0 (n : Int).toNat) ++ t).toList = true
        · rw [if_pos c20] at h
          obtain ⟨c, hc, h⟩ := Option.bind_eq_some_iff.1 h
          simp only [Option.some.injEq] at h
          subst h
          have HS := Aside0.mk hc
          clear hc
          have c20b0 := c20
          clear c20
          ((first | rw [c20b0] | (simp only [i64_w, i32_w]; rw [c20b0]) | skip))
          go_wp2_with (first | (go_at_call 82; (with_reducible refine (key_Shared.calls k a1 ((a1.extract 0 (n : Int).toNat) ++ t) c _ HS.out).mono ?_); rintro e4 w4 ⟨rfl, hb⟩; have n0_ := Aside0.mk (IsS104.below (by repeat (first | (with_reducible first | exact HI0.out | apply IsS104.alloc | apply IsS104.drewN | apply IsS104.drew) | exact HI0.out)) hb); have n1_ := Aside0.mk (KeepBut.trans (by repeat (first | (with_reducible first | exact HK.out | apply keep_drewN | apply keep_drew | apply keep_alloc) | exact HK.out)) (KeepBut.of_below hb g none) (.inl rfl)); have n2_ := Aside0.mk (below_step (by repeat (first | (with_reducible first | exact HB.out | apply y1_ | apply y2_ | apply y3_) | exact HB.out)) hb); clear HI0; clear HK; clear HB; have HI0 := n0_; have HK := n1_; have HB := n2_; clear n0_ n1_ n2_; clear hb))
          go_meet
          case rel => exact ⟨_, (by first | rfl | (simp; done) | (simp [*]; done)), HL, ⟨(by repeat (first | (with_reducible first | exact HI0.out | apply IsS104.alloc | apply IsS104.drewN | apply IsS104.drew) | exact HI0.out))⟩, ⟨(by repeat (first | (with_reducible first | exact HK.out | apply keep_drewN | apply keep_drew | apply keep_alloc) | exact HK.out))⟩, ⟨(by repeat (first | (with_reducible first | exact HB.out | apply y1_ | apply y2_ | apply y3_) | exact HB.out))⟩⟩
        · rw [if_neg c20] at h
          simp only [Option.some.injEq] at h
          subst h
          have c20b0 : Op.bytesLess a1.toList ((a1.extract 0 (n : Int).toNat) ++ t).toList = false := by simpa using c20
          clear c20
          ((first | rw [c20b0] | (simp only [i64_w, i32_w]; rw [c20b0]) | skip))
          go_wp2
          go_meet
          case rel => exact ⟨_, (by first | rfl | (simp; done) | (simp [*]; done)), HL, ⟨(by repeat (first | (with_reducible first | exact HI0.out | apply IsS104.alloc | apply IsS104.drewN | apply IsS104.drew) | exact HI0.out))⟩, ⟨(by repeat (first | (with_reducible first | exact HK.out | apply keep_drewN | apply keep_drew | apply keep_alloc) | exact HK.out))⟩, ⟨(by repeat (first | (with_reducible first | exact HB.out | apply y1_ | apply y2_ | apply y3_) | exact HB.out))⟩⟩
      · rw [if_pos rfl] at h
        obtain ⟨c, hc, h⟩ := Option.bind_eq_some_iff.1 h
        simp only [Option.some.injEq] at h
        subst h
        have HS := Aside0.mk hc
        clear hc
        go_wp2_with (first | (go_at_call 82; (with_reducible refine (key_Shared.calls k a1 ((a1.extract 0 (n : Int).toNat) ++ t) c _ HS.out).mono ?_); rintro e4 w4 ⟨rfl, hb⟩; have n0_ := Aside0.mk (IsS104.below (by repeat (first | (with_reducible first | exact HI0.out | apply IsS104.alloc | apply IsS104.drewN | apply IsS104.drew) | exact HI0.out)) hb); have n1_ := Aside0.mk (KeepBut.trans (by repeat (first | (with_reducible first | exact HK.out | apply keep_drewN | apply keep_drew | apply keep_alloc) | exact HK.out)) (KeepBut.of_below hb g none) (.inl rfl)); have n2_ := Aside0.mk (below_step (by repeat (first | (with_reducible first | exact HB.out | apply y1_ | apply y2_ | apply y3_) | exact HB.out)) hb); clear HI0; clear HK; clear HB; have HI0 := n0_; have HK := n1_; have HB := n2_; clear n0_ n1_ n2_; clear hb))
        go_meet
        case rel => exact ⟨_, (by first | rfl | (simp; done) | (simp [*]; done)), HL, ⟨(by repeat (first | (with_reducible first | exact HI0.out | apply IsS104.alloc | apply IsS104.drewN | apply IsS104.drew) | exact HI0.out))⟩, ⟨(by repeat (first | (with_reducible first | exact HK.out | apply keep_drewN | apply keep_drew | apply keep_alloc) | exact HK.out))⟩, ⟨(by repeat (first | (with_reducible first | exact HB.out | apply y1_ | apply y2_ | apply y3_) | exact HB.out))⟩⟩
    case rest =>
      clear HX HL c13b9 c13b0 c13b1 c13b2 HI0 HK HB
      (try clear c8b0 c10b0 c10b1 c11b0 c11b1)
      obtain ⟨x35, rfl, HL, HI0, HK, HB⟩ := hcut
      rcases HL.out with ⟨rfl, rfl⟩ | ⟨rfl, he, t3, s3, ht⟩
      · clear HL
        go_wp2_with (first
          | (go_at_call 75; refine (block_Unpack.must_gives 16 (by decide) _).mono ?_; rintro e4 w4 ⟨rfl, ⟨nd2, rfl⟩⟩))
        exact ⟨rfl, rfl, (by repeat (first | (with_reducible first | exact HB.out | apply y1_ | apply y2_ | apply y3_) | exact HB.out)), (by repeat (first | (with_reducible first | exact HK.out | apply keep_drewN | apply keep_drew | apply keep_alloc) | exact HK.out))⟩
      · clear HL
        have HT := Aside0.mk ht
        have HE := Aside0.mk he
        clear ht he
        go_wp2_with (first
          | (go_at_call 125; refine (block_Unpack.text_gives k g s2 4096 t3 s3 e w0 _ (by repeat (first | (with_reducible first | exact HI0.out | apply IsS104.alloc | apply IsS104.drewN | apply IsS104.drew) | exact HI0.out)) (by repeat (first | (with_reducible first | exact HB.out | apply y1_ | apply y2_ | apply y3_) | exact HB.out)) HT.out HE.out).mono ?_; rintro e4 w4 ⟨rfl, hb, hk⟩; have n0_ := Aside0.mk (KeepBut.trans (by repeat (first | (with_reducible first | exact HK.out | apply keep_drewN | apply keep_drew | apply keep_alloc) | exact HK.out)) hk (.inl rfl)); have n1_ := Aside0.mk hb; clear HK; clear HB; have HK := n0_; have HB := n1_; clear n0_ n1_; clear hb hk))
        exact ⟨rfl, rfl, (by repeat (first | (with_reducible first | exact HB.out | apply y1_ | apply y2_ | apply y3_) | exact HB.out)), (by repeat (first | (with_reducible first | exact HK.out | apply keep_drewN | apply keep_drew | apply keep_alloc) | exact HK.out))⟩
set_option maxHeartbeats 8000000 in
set_option maxRecDepth 100000 in
/-- The deferred closure of a frame that a fault ends. -/
theorem block_Unpack.caught (pb qb : Nat) (e0 : Int) (v0 v1 : Value) (w : World) (hP : w.heap[pb]? = some (.cells #[v0] 22 (0, 0))) (hQ : w.heap[qb]? = some (.cells #[v1] 27 (0, 0))) (hpq : pb ≠ qb) :
    CallsD Try.prog 72 #[.pointer (some ⟨pb, 0, none⟩), .pointer (some ⟨qb, 0, none⟩)] (.panicking (block_Unpack.ch e0)) w fun e u' w' => e = .returned (.tuple #[]) ∧ u' = .panicking [⟨.iface 100 (.agg #[.int .i64 e0]), true, false⟩] ∧ w' = (((w.alloc (.cells #[.int .i64 e0] 100)).setCell ⟨pb, 0, none⟩ (.slice none 0 0)).setCell ⟨qb, 0, none⟩ (.int .i64 e0)).drew := by
  have hne : ∀ w : World, Sem.run Try.prog (binOp BinOp.neq 20 (.iface 100 (.agg #[.int .i64 e0])) .nilIface) w = .ok (.bool true) w := fun _ => by kernel_rfl
  have hta : ∀ w : World, Sem.run Try.prog (Instr.typeAssert (.iface 100 (.agg #[.int .i64 e0])) 20 100 true) w = .ok (.tuple #[.agg #[.int .i64 e0], .bool true]) w := fun _ => by kernel_rfl
  have hpl := blk_lt hP
  have hql := blk_lt hQ
  have n1 : ¬ (w.heap.size = pb) := by omega
  have n2 : ¬ (w.heap.size = qb) := by omega
  have n3 : ¬ (pb = w.heap.size) := fun e => n1 e.symm
  have n4 : ¬ (qb = w.heap.size) := fun e => n2 e.symm
  have n5 : ¬ (qb = pb) := fun e => hpq e.symm
  have n6 : ¬ (pb = qb) := hpq
  clear hpl hql hpq
  have hu100 := Try.underlying100
  refine callsD_of_wpS Try.func72 rfl fun c₀ cs hu => ?_
  apply wpS_seq
  apply wpS_region
  simp [wpOpsS, go_sem, recoverD, hu, Try.ntmps72, Exit.thenS, block_Unpack.ch]
  apply wpS_seq
  apply wpS_region
  simp [wpOpsS, go_sem, Exit.thenS, hne]
  refine wpS_cond (t := true) (by simp [Act.eval, Array.replicate]) ?_
  simp only [if_true]
  rw [show Array.replicate 16 undef = #[undef, undef, undef, undef, undef, undef, undef, undef, undef, undef, undef, undef, undef, undef, undef, undef] from rfl]
  simp only [List.setIfInBounds_toArray, List.set_cons_zero, List.set_cons_succ, List.append_toArray, List.cons_append, List.nil_append]
  refine wpS_of_wp ?_
  go_upto_region 5 with (fail)
  have hx : (w.alloc (.cells #[.int .i64 e0] 100)).drew.cell? ⟨w.heap.size, 0, none⟩ = some (.int .i64 e0) := by simp [go_sem]
  have HP := blk_drew (z3_ hP (.cells #[.int .i64 e0] 100))
  have HQ := blk_drew (z3_ hQ (.cells #[.int .i64 e0] 100))
  have p0 := (blk_cell HP 0).trans rfl
  have q0 := (blk_cell HQ 0).trans rfl
  have fp := blk_frozen HP 0
  have fq := blk_frozen HQ 0
  have HP1 := blk_drew (blk_put (z3_ hP (.cells #[.int .i64 e0] 100)) 0 (.slice none 0 0) rfl)
  have HQ1 := blk_drew (blk_far (p := ⟨pb, 0, none⟩) (z3_ hQ (.cells #[.int .i64 e0] 100)) n5 (.slice none 0 0))
  have p1 := (blk_cell HP1 0).trans rfl
  have q1 := (blk_cell HQ1 0).trans rfl
  have fp1 := blk_frozen HP1 0
  have fq1 := blk_frozen HQ1 0
  have HP2 := blk_drew (blk_far (p := ⟨qb, 0, none⟩) (blk_put (z3_ hP (.cells #[.int .i64 e0] 100)) 0 (.slice none 0 0) rfl) n6 (.int .i64 e0))
  have HQ2 := blk_drew (blk_put (blk_far (p := ⟨pb, 0, none⟩) (z3_ hQ (.cells #[.int .i64 e0] 100)) n5 (.slice none 0 0)) 0 (.int .i64 e0) rfl)
  have p2 := (blk_cell HP2 0).trans rfl
  have q2 := (blk_cell HQ2 0).trans rfl
  have fp2 := blk_frozen HP2 0
  have fq2 := blk_frozen HQ2 0
  clear HP HQ HP1 HQ1 HP2 HQ2
  go_region_held3 (fun w' => w'.cell? ⟨w.heap.size, 0, none⟩ = some (.int .i64 e0) ∧ w'.frozen? ⟨pb, 0, none⟩ = false ∧ w'.frozen? ⟨qb, 0, none⟩ = false ∧ (∃ v, w'.cell? ⟨pb, 0, none⟩ = some v) ∧ (∃ v, w'.cell? ⟨qb, 0, none⟩ = some v)) ((first | go_keep | (refine ⟨?_, ?_, ?_, ?_, ?_⟩ <;> (try dsimp only) <;> first | assumption | go_keep | (go_simp; done) | (exact ⟨_, by assumption⟩) | (exact ⟨_, by go_keep⟩) | (refine ⟨_, ?_⟩; go_simp; done)))) (fail)
  exact ⟨rfl, _, rfl, .tuple #[], by simp [results, Try.results72], rfl, rfl, rfl⟩
/-- what the walk keeps: the boxes of the results and of the reader, the row that is made -/
structure block_Unpack.St (w W : World) (v : Value) (acc : List S25) (rest : ByteArray) : Prop where
  out : W.heap[w.heap.size]? = some (.cells #[v] 22 (0, 0))
  err : W.heap[w.heap.size + 1]? = some (.cells #[.int .i64 0] 27 (0, 0))
  rd : IsS104 w W (w.heap.size + 1 + 1) rest
  row : Kd.R k25 25 W w.heap.size (fun q => q ≠ w.heap.size ∧ q ≠ w.heap.size + 1 ∧ q ≠ w.heap.size + 1 + 1) v acc
  low : Below w.heap.size w W
theorem block_Unpack.St.first (w : World) (s : ByteArray) : block_Unpack.St w (((w.alloc (.cells #[.slice none 0 0] 22)).alloc (.cells #[.int .i64 0] 27)).alloc (.cells #[.string s] 104)) (.slice none 0 0) [] s := by
  have h1 := heap_alloc_new w (.cells #[.slice none 0 0] 22)
  have h2 := heap_alloc_new (w.alloc (.cells #[.slice none 0 0] 22)) (.cells #[.int .i64 0] 27)
  have h3 := heap_alloc_new ((w.alloc (.cells #[.slice none 0 0] 22)).alloc (.cells #[.int .i64 0] 27)) (.cells #[.string s] 104)
  have e1 : (w.alloc (.cells #[.slice none 0 0] 22)).heap.size = w.heap.size + 1 := by simp
  have e2 : ((w.alloc (.cells #[.slice none 0 0] 22)).alloc (.cells #[.int .i64 0] 27)).heap.size = w.heap.size + 1 + 1 := by simp
  rw [e1] at h2
  rw [e2] at h3
  exact ⟨z3_ (z3_ h1 _) _, z3_ h2 _, ⟨h3, by omega⟩, Kd.R_nil _ _ _ _ _, y1_ (y1_ (y1_ (Below.refl _ _) _) _) _⟩
theorem block_Unpack.St.call {w W W' : World} {v : Value} {acc : List S25} {rest rest' : ByteArray} (h : block_Unpack.St w W v acc rest) (hI : IsS104 w W' (w.heap.size + 1 + 1) rest') (hB : Below w.heap.size w W') (hK : KeepBut W W' (w.heap.size + 1 + 1) none) : block_Unpack.St w W' v acc rest' :=
  ⟨hK.blk h.out (by omega) (by simp), hK.blk h.err (by omega) (by simp), hI, Kd.R_keep h.row hK (fun _ hk => hk.2.2), hB⟩
theorem block_Unpack.St.below {w W W' : World} {v : Value} {acc : List S25} {rest : ByteArray} (h : block_Unpack.St w W v acc rest) (hB : Below W.heap.size W W') : block_Unpack.St w W' v acc rest :=
  ⟨(hB.block _ (blk_lt h.out)).trans h.out, (hB.block _ (blk_lt h.err)).trans h.err, h.rd.below hB, Kd.R_below h.row hB, below_step h.low hB⟩
theorem block_Unpack.St.fresh {w W : World} {v : Value} {acc : List S25} {rest : ByteArray} (h : block_Unpack.St w W v acc rest) (q : Nat) (hq : W.heap.size ≤ q) : q ≠ w.heap.size ∧ q ≠ w.heap.size + 1 ∧ q ≠ w.heap.size + 1 + 1 := by
  have h1 := blk_lt h.rd.1
  omega
theorem block_Unpack.St.grown {w W W' : World} {v v' : Value} {acc acc' : List S25} {rest : ByteArray} (h : block_Unpack.St w W v acc rest) (hg : W.grownBy W' v.ownBlock) (hr : Kd.R k25 25 W' w.heap.size (fun q => q ≠ w.heap.size ∧ q ≠ w.heap.size + 1 ∧ q ≠ w.heap.size + 1 + 1) v' acc') (hB : Below w.heap.size w W') : block_Unpack.St w (W'.setCell ⟨w.heap.size, 0, none⟩ v') v' acc' rest := by
  have n0 : some w.heap.size ≠ v.ownBlock := fun e => (h.row.1 _ e.symm).1 rfl
  have n1 : some (w.heap.size + 1) ≠ v.ownBlock := fun e => (h.row.1 _ e.symm).2.1 rfl
  have n2 : some (w.heap.size + 1 + 1) ≠ v.ownBlock := fun e => (h.row.1 _ e.symm).2.2 rfl
  have g0 := blk_grown h.out hg n0
  have g1 := blk_grown h.err hg n1
  have g2 := blk_grown h.rd.1 hg n2
  exact ⟨blk_put g0 0 _ rfl, blk_far g1 (by simp) _, ⟨blk_far g2 (by simp <;> omega) _, h.rd.2⟩, Kd.R_far hr (fun q hq => hq.1) _, y4_ hB (Nat.le_refl _)⟩
theorem block_Unpack.free {w W W' : World} {v : Value} {acc : List S25} {rest : ByteArray} (h : block_Unpack.St w W v acc rest) (hg : W.grownBy W' v.ownBlock) : W'.frozen? ⟨w.heap.size, 0, none⟩ = false ∧ W'.cell? ⟨w.heap.size, 0, none⟩ = some v := by
  have hx := blk_grown h.out hg (fun e => (h.row.1 _ e.symm).1 rfl)
  exact ⟨blk_frozen hx 0, by rw [Lib.cell_of_heap hx]; rfl⟩
theorem block_Unpack.box {w W W6 W' : World} {v : Value} {acc : List S25} {rest key val : ByteArray} {gb : Nat} (h : block_Unpack.St w W v acc rest) (hx6 : W6.heap[gb]? = some (.cells #[.string key, .string val] 25 (0, 0))) (hge : W.heap.size ≤ gb) (hg : W6.grownBy W' v.ownBlock) :
    W'.cell? ⟨gb, 0, none⟩ = some (.string key) ∧ ¬ (gb = w.heap.size) := by
  obtain ⟨h0, inner, hown, hr⟩ := h.row
  have nx : some gb ≠ v.ownBlock := fun e => Nat.lt_irrefl _ (Nat.lt_of_lt_of_le (own_lt hown _ e.symm) hge)
  have hx := blk_grown hx6 hg nx
  have hlt := blk_lt h.out
  exact ⟨by rw [Lib.cell_of_heap hx]; rfl, by omega⟩
theorem block_Unpack.caught2 (pb qb : Nat) (e0 : Int) (v0 v1 : Value) (w0 w : World) (hP : w.heap[pb]? = some (.cells #[v0] 22 (0, 0))) (hQ : w.heap[qb]? = some (.cells #[v1] 27 (0, 0))) (hpq : pb ≠ qb) (hB : Below w0.heap.size w0 w) (hp : w0.heap.size ≤ pb) (hq : w0.heap.size ≤ qb) :
    CallsD Try.prog 72 #[.pointer (some ⟨pb, 0, none⟩), .pointer (some ⟨qb, 0, none⟩)] (.panicking (block_Unpack.ch e0)) w fun e u' w' => e = .returned (.tuple #[]) ∧ u' = .panicking [⟨.iface 100 (.agg #[.int .i64 e0]), true, false⟩] ∧ w'.cell? ⟨pb, 0, none⟩ = some (.slice none 0 0) ∧ w'.cell? ⟨qb, 0, none⟩ = some (.int .i64 e0) ∧ Below w0.heap.size w0 w' := by
  refine (block_Unpack.caught pb qb e0 v0 v1 w hP hQ hpq).mono ?_
  rintro e u' w' ⟨rfl, rfl, rfl⟩
  have n5 : ¬ (qb = pb) := fun e => hpq e.symm
  have n6 : ¬ (pb = qb) := hpq
  have HP2 := blk_drew (blk_far (p := ⟨qb, 0, none⟩) (blk_put (z3_ hP (.cells #[.int .i64 e0] 100)) 0 (.slice none 0 0) rfl) n6 (.int .i64 e0))
  have HQ2 := blk_drew (blk_put (blk_far (p := ⟨pb, 0, none⟩) (z3_ hQ (.cells #[.int .i64 e0] 100)) n5 (.slice none 0 0)) 0 (.int .i64 e0) rfl)
  exact ⟨rfl, rfl, (blk_cell HP2 0).trans rfl, (blk_cell HQ2 0).trans rfl, below_drew1 (y4_ (y4_ (y1_ hB _) hp) hq)⟩
theorem block_Unpack.St.kept {w W W' : World} {v : Value} {acc : List S25} {rest : ByteArray} (h : block_Unpack.St w W v acc rest) (hK : KeepBut W W' (w.heap.size + 1 + 1) none) : W'.heap[w.heap.size]? = some (.cells #[v] 22 (0, 0)) ∧ W'.heap[w.heap.size + 1]? = some (.cells #[.int .i64 0] 27 (0, 0)) :=
  ⟨hK.blk h.out (by omega) (by simp), hK.blk h.err (by omega) (by simp)⟩
set_option maxHeartbeats 8000000 in
set_option maxRecDepth 100000 in
theorem block_Unpack.gives_num (k : Nat) (s : ByteArray) (n : Int) (rest : ByteArray) (e : Int) (w : World) (h : word_TakeNum.f k s = some (n, rest, e)) (he : e ≠ 0) :
    Calls Try.prog 17 #[.string s] w fun e' w' => e' = .returned (.tuple #[.slice none 0 0, .int .i64 e]) ∧ Below w.heap.size w w' := by
  have hmf : ∀ (fn : Fn) (first cap : Array Value) (w : World), (Instr.makeFunc fn first cap).run Try.prog w = .ok (.func fn first cap) w := fun _ _ _ _ => rfl
  have HT := Aside0.mk h
  have HE := Aside0.mk he
  clear h he
  go_enter_defers Try.func17, Try.ntmps17
  go_wp2_with (go_at_call 73; refine (block_Unpack.num_gives k (w.heap.size + 1 + 1) s n rest e w _ (block_Unpack.St.first w s).rd (block_Unpack.St.first w s).low HT.out HE.out).mono ?_; rintro e4 w4 ⟨rfl, hB, hK⟩; have HC := Aside0.mk ((block_Unpack.St.first w s).kept hK); have HB := Aside0.mk hB; clear hB hK)
  refine leaves_cons (f := 72) (args := #[.pointer (some ⟨w.heap.size, 0, none⟩), .pointer (some ⟨w.heap.size + 1, 0, none⟩)]) (by simp) (by simp [go_sem]) ?_
  refine (block_Unpack.caught2 w.heap.size (w.heap.size + 1) e (.slice none 0 0) (.int .i64 0) w _ HC.out.1 HC.out.2 (by omega) HB.out (by omega) (by omega)).mono ?_
  rintro e u' w'' ⟨rfl, rfl, hp, hq, hb⟩
  simp [Leaves, settle, results, Try.results17, go_sem, hp, hq]
  exact hb
def block_Unpack.entE (k : Nat) (s last : ByteArray) (first : Bool) : Option (Int × ByteArray × ByteArray × ByteArray) :=
  (word_TakeNum.f k s).bind fun a => if a.2.2 ≠ 0 then some (a.2.2, ⟨#[]⟩, ⟨#[]⟩, ⟨#[]⟩) else if a.1 > (last.size : Int) then some (3, ⟨#[]⟩, ⟨#[]⟩, ⟨#[]⟩) else if 0 ≤ a.1 then
  (word_TakeText.f k a.2.1 256).bind fun b => if b.2.2 ≠ 0 then some (b.2.2, ⟨#[]⟩, ⟨#[]⟩, ⟨#[]⟩) else if (last.extract 0 (a.1 : Int).toNat).size + b.1.size ≤ 9223372036854775807 then
  (block_Unpack.ordE k last ((last.extract 0 (a.1 : Int).toNat) ++ b.1) first a.1).bind fun x => if x = true then some (16, ⟨#[]⟩, ⟨#[]⟩, ⟨#[]⟩) else
  (word_TakeText.f k b.2.1 4096).bind fun c => if c.2.2 ≠ 0 then some (c.2.2, ⟨#[]⟩, ⟨#[]⟩, ⟨#[]⟩) else some (0, (last.extract 0 (a.1 : Int).toNat) ++ b.1, c.1, c.2.1) else none else none
theorem block_Unpack.ordE_mono (k : Nat) (a1 key : ByteArray) (a2 : Bool) (n : Int) : LeO (block_Unpack.ordE k a1 key a2 n) (block_Unpack.ordE (k + 1) a1 key a2 n) :=
  LeO.ite (LeO.bind (key_Shared.mono _ _ _) fun _ => LeO.refl _) (LeO.ite (LeO.bind (key_Shared.mono _ _ _) fun _ => LeO.refl _) (LeO.refl _))
theorem block_Unpack.entE_mono (k : Nat) (s last : ByteArray) (first : Bool) : LeO (block_Unpack.entE k s last first) (block_Unpack.entE (k + 1) s last first) :=
  LeO.bind (word_TakeNum.mono _ _) fun _ => LeO.ite (LeO.refl _) (LeO.ite (LeO.refl _) (LeO.ite (LeO.bind (word_TakeText.mono _ _ _) fun _ => LeO.ite (LeO.refl _) (LeO.ite (LeO.bind (block_Unpack.ordE_mono _ _ _ _ _) fun _ => LeO.ite (LeO.refl _) (LeO.bind (word_TakeText.mono _ _ _) fun _ => LeO.ite (LeO.refl _) (LeO.refl _))) (LeO.none _))) (LeO.none _)))
theorem block_Unpack.num_of {k : Nat} {s : ByteArray} {n : Int} {s1 : ByteArray} (h : word_TakeNum.f k s = some (n, s1, 0)) : block_reader_num.f k s = some (n, s1) := by
  simp [block_reader_num.f, h, block_must.f]
theorem block_Unpack.text_of {k : Nat} {s : ByteArray} {m : Int} {t s1 : ByteArray} (h : word_TakeText.f k s m = some (t, s1, 0)) : block_reader_text.f k s m = some (t, s1) := by
  simp [block_reader_text.f, h, block_must.f]
theorem block_Unpack.up {α : Type} {f : Nat → Option α} (hm : ∀ k, LeO (f k) (f (k + 1))) {k : Nat} {r : α} (h : f k = some r) : ∀ j, f (k + j) = some r
  | 0 => h
  | j + 1 => hm _ _ (block_Unpack.up hm h j)
/-- where nothing is wrong an entry is the printed one -/
theorem block_Unpack.entE_ok {k : Nat} {s last : ByteArray} {first : Bool} {key val rest : ByteArray} (h : block_Unpack.entE k s last first = some (0, key, val, rest)) : block_reader_entry.f (k + 3) s last first = some (key, val, rest) := by
  unfold block_Unpack.entE at h
  obtain ⟨⟨n, s1, e1⟩, hn, h⟩ := Option.bind_eq_some_iff.1 h
  by_cases h1 : e1 ≠ 0
  · simp only [if_pos h1, Option.some.injEq, Prod.mk.injEq] at h
    exact absurd h.1 h1
  · obtain rfl := Decidable.not_not.1 h1
    simp only [if_neg h1] at h
    by_cases h2 : n > (last.size : Int)
    · simp [if_pos h2] at h
    · simp only [if_neg h2] at h
      by_cases h3 : 0 ≤ n
      · simp only [if_pos h3] at h
        obtain ⟨⟨t, s2, e2⟩, ht, h⟩ := Option.bind_eq_some_iff.1 h
        by_cases h4 : e2 ≠ 0
        · simp only [if_pos h4, Option.some.injEq, Prod.mk.injEq] at h
          exact absurd h.1 h4
        · obtain rfl := Decidable.not_not.1 h4
          simp only [if_neg h4] at h
          by_cases h5 : (last.extract 0 (n : Int).toNat).size + t.size ≤ 9223372036854775807
          · simp only [if_pos h5] at h
            obtain ⟨x, hx, h⟩ := Option.bind_eq_some_iff.1 h
            by_cases h6 : x = true
            · simp [if_pos h6] at h
            · simp only [if_neg h6] at h
              obtain rfl := Bool.eq_false_iff.2 h6
              obtain ⟨⟨t3, s3, e3⟩, ht3, h⟩ := Option.bind_eq_some_iff.1 h
              by_cases h7 : e3 ≠ 0
              · simp only [if_pos h7, Option.some.injEq, Prod.mk.injEq] at h
                exact absurd h.1 h7
              · obtain rfl := Decidable.not_not.1 h7
                simp only [if_neg h7, Option.some.injEq, Prod.mk.injEq] at h
                obtain ⟨-, rfl, rfl, rfl⟩ := h
                have a1 := block_Unpack.num_of (block_Unpack.up (f := fun k => word_TakeNum.f k s) (fun k => word_TakeNum.mono s k) hn 3)
                have a2 := block_Unpack.text_of (block_Unpack.up (f := fun k => word_TakeText.f k s1 256) (fun k => word_TakeText.mono s1 256 k) ht 2)
                have a3 := block_Unpack.up (f := fun k => block_Unpack.ordE k last (last.extract 0 (n : Int).toNat ++ t) first n) (fun k => block_Unpack.ordE_mono k _ _ _ _) hx 2
                have a4 := block_Unpack.text_of (block_Unpack.up (f := fun k => word_TakeText.f k s2 4096) (fun k => word_TakeText.mono s2 4096 k) ht3 0)
                have j2 : block_reader_entry.j2 (k + 1) (last.extract 0 (n : Int).toNat ++ t) s2 = some (last.extract 0 (n : Int).toNat ++ t, t3, s3) := by
                  simp only [block_reader_entry.j2]; rw [show block_reader_text.f k s2 4096 = some (t3, s3) from a4]; rfl
                have j1 : block_reader_entry.j1 (k + 2) (last.extract 0 (n : Int).toNat ++ t) false s2 = some (last.extract 0 (n : Int).toNat ++ t, t3, s3) := by
                  simp only [block_reader_entry.j1]; rw [if_neg (by decide)]; exact j2
                have j0 : block_reader_entry.j0 (k + 3) last first n s1 = some (last.extract 0 (n : Int).toNat ++ t, t3, s3) := by
                  simp only [block_reader_entry.j0]; rw [if_pos h3, if_pos (by omega), show block_reader_text.f (k + 2) s1 256 = some (t, s2) from a2]
                  show (if (last.extract 0 (n : Int).toNat).size + t.size ≤ 9223372036854775807 then _ else _) = _
                  rw [if_pos h5]
                  simp only [block_Unpack.ordE] at a3
                  by_cases b1 : first = true
                  · rw [if_pos b1] at a3 ⊢
                    obtain ⟨c, hc, a3⟩ := Option.bind_eq_some_iff.1 a3
                    rw [hc]
                    have a3 := Option.some.inj a3
                    show block_reader_entry.j1 (k + 2) _ (c != n) s2 = _
                    rw [a3]; exact j1
                  · rw [if_neg b1] at a3 ⊢
                    by_cases b2 : Op.bytesLess last.toList (last.extract 0 (n : Int).toNat ++ t).toList = true
                    · rw [if_pos b2] at a3 ⊢
                      obtain ⟨c, hc, a3⟩ := Option.bind_eq_some_iff.1 a3
                      rw [hc]
                      have a3 := Option.some.inj a3
                      show block_reader_entry.j1 (k + 2) _ (c != n) s2 = _
                      rw [a3]; exact j1
                    · rw [if_neg b2] at a3
                      simp at a3
                simp only [block_reader_entry.f]
                rw [show block_reader_num.f (k + 3) s = some (n, s1) from a1]
                show (if n > (last.size : Int) then _ else _) = _
                rw [if_neg h2]
                exact j0
          · simp only [if_neg h5] at h; cases h
      · simp [if_neg h3] at h
/-- where something is wrong an entry gives up -/
theorem block_Unpack.entE_bad (k g : Nat) (s last : ByteArray) (first : Bool) (e : Int) (key val rest : ByteArray) (w0 w : World) (hI : IsS104 w0 w g s) (hB : Below w0.heap.size w0 w) (h : block_Unpack.entE k s last first = some (e, key, val, rest)) (he : e ≠ 0) :
    Calls Try.prog 74 #[.pointer (some ⟨g, 0, none⟩), .string last, .bool first] w fun e' w' => e' = .panicked (block_Unpack.ch e) ∧ Below w0.heap.size w0 w' ∧ KeepBut w w' g none := by
  unfold block_Unpack.entE at h
  obtain ⟨⟨n, s1, e1⟩, hn, h⟩ := Option.bind_eq_some_iff.1 h
  by_cases h1 : e1 ≠ 0
  · simp only [if_pos h1, Option.some.injEq, Prod.mk.injEq] at h
    obtain ⟨rfl, -⟩ := h
    exact block_Unpack.ent_num k g s last first n s1 e1 w0 w hI hB hn he
  · obtain rfl := Decidable.not_not.1 h1
    simp only [if_neg h1] at h
    have hn' := block_Unpack.num_of hn
    by_cases h2 : n > (last.size : Int)
    · simp only [if_pos h2, Option.some.injEq, Prod.mk.injEq] at h
      obtain ⟨rfl, -⟩ := h
      exact block_Unpack.ent_more k g s last first n s1 w0 w hI hB hn' h2
    · simp only [if_neg h2] at h
      by_cases h3 : 0 ≤ n
      · simp only [if_pos h3] at h
        obtain ⟨⟨t, s2, e2⟩, ht, h⟩ := Option.bind_eq_some_iff.1 h
        refine block_Unpack.ent_late k g s last first n s1 t s2 e w0 w hI hB hn' h3 (by omega) ?_
        by_cases h4 : e2 ≠ 0
        · simp only [if_pos h4, Option.some.injEq, Prod.mk.injEq] at h
          obtain ⟨rfl, -⟩ := h
          exact .inl ⟨ht, he⟩
        · obtain rfl := Decidable.not_not.1 h4
          simp only [if_neg h4] at h
          by_cases h5 : (last.extract 0 (n : Int).toNat).size + t.size ≤ 9223372036854775807
          · simp only [if_pos h5] at h
            obtain ⟨x, hx, h⟩ := Option.bind_eq_some_iff.1 h
            refine .inr ⟨block_Unpack.text_of ht, h5, x, hx, ?_⟩
            by_cases h6 : x = true
            · simp only [if_pos h6, Option.some.injEq, Prod.mk.injEq] at h
              exact .inl ⟨h6, h.1.symm⟩
            · simp only [if_neg h6] at h
              obtain ⟨⟨t3, s3, e3⟩, ht3, h⟩ := Option.bind_eq_some_iff.1 h
              by_cases h7 : e3 ≠ 0
              · simp only [if_pos h7, Option.some.injEq, Prod.mk.injEq] at h
                obtain ⟨rfl, -⟩ := h
                exact .inr ⟨Bool.eq_false_iff.2 h6, he, t3, s3, ht3⟩
              · simp only [if_neg h7, Option.some.injEq, Prod.mk.injEq] at h
                exact absurd h.1.symm he
          · simp only [if_neg h5] at h; cases h
      · simp [if_neg h3] at h
def block_Unpack.goE (k : Nat) : Nat → Bool → ByteArray → ByteArray → List S25 → Option (Int × List S25 × ByteArray)
  | 0, _, rest, _, acc => some (0, acc, rest)
  | m + 1, first, rest, last, acc => (block_Unpack.entE k rest last first).bind fun t => if t.1 = 0 then (if acc.length < 1000000 then block_Unpack.goE k m false t.2.2.2 t.2.1 (acc ++ [⟨t.2.1, t.2.2.1⟩]) else none) else some (t.1, [], rest)
/-- what Unpack tells of what its loop tells -/
def block_Unpack.fin (u : Int × List S25 × ByteArray) : List S25 × Int := if u.1 ≠ 0 then ([], u.1) else if u.2.2.toList = [] then (u.2.1, 0) else ([], 3)
set_option maxHeartbeats 8000000 in
set_option maxRecDepth 100000 in
theorem block_Unpack.gives_all (k : Nat) (s : ByteArray) (n : Int) (rest : ByteArray) (u1 : Int) (u2 : List S25) (u3 : ByteArray) (w : World) (hn : block_reader_num.f k s = some (n, rest)) (hg : block_Unpack.goE k n.toNat true rest ⟨#[]⟩ [] = some (u1, u2, u3)) (r : List S25) (e0 : Int) (hf : block_Unpack.fin (u1, u2, u3) = (r, e0)) :
    Calls Try.prog 17 #[.string s] w fun e w' => ∃ v : Value, e = .returned (.tuple #[v, .int .i64 e0]) ∧ Kd.R k25 25 w' w.heap.size (fun _ => True) v r ∧ Below w.heap.size w w' := by
  have hmf : ∀ (fn : Fn) (first cap : Array Value) (w : World), (Instr.makeFunc fn first cap).run Try.prog w = .ok (.func fn first cap) w := fun _ _ _ _ => rfl
  have HN := Aside0.mk hn
  have HF := Aside0.mk hf
  clear hf
  have H0 : Aside0 (block_Unpack.goE k (n.toNat - 0) ((0 : Int) == 0) rest ⟨#[]⟩ [] = some (u1, u2, u3)) := ⟨hg⟩
  clear hn hg
  go_enter_defers Try.func17, Try.ntmps17
  go_wp2_with (go_at_call 73; refine (block_reader_num.calls k (w.heap.size + 1 + 1) s n rest w _ (block_Unpack.St.first w s).rd (block_Unpack.St.first w s).low HN.out).mono ?_; rintro e w4 ⟨rfl, hI, hB, hK⟩; have HS := Aside0.mk ((block_Unpack.St.first w s).call hI hB hK); clear hI hB hK)
  go_loopw [5, 6] (fun ls i wr => ∃ (j : Nat) (last rest : ByteArray) (acc : List S25) (v : Value), ls = .string last ∧ i = .int .i64 (j : Int) ∧ j ≤ n.toNat ∧ acc.length = j ∧ Aside0 (block_Unpack.goE k (n.toNat - j) ((j : Int) == 0) rest last acc = some (u1, u2, u3)) ∧ Aside0 (block_Unpack.St w wr v acc rest)) (fun _ i _ => n.toNat - (intOf i).toNat)
  case atStart => exact ⟨0, _, _, [], _, rfl, rfl, Nat.zero_le _, rfl, H0, HS⟩
  case round =>
    clear H0 HS
    obtain ⟨j, last, rest, acc, v, rfl, rfl, hj, hal, HG, HS⟩ := hrel
    by_cases hlt : (j : Int) < n
    · have hg := HG.out
      rw [show n.toNat - j = (n.toNat - (j + 1)) + 1 by omega, block_Unpack.goE] at hg
      obtain ⟨⟨e1, key, val, rest2⟩, he, hg⟩ := Option.bind_eq_some_iff.1 hg
      by_cases hz : e1 = 0
      · subst hz
        simp only [if_true] at hg
        have he := block_Unpack.entE_ok he
        by_cases hc : acc.length < 1000000
        · rw [if_pos hc] at hg
          have hb : j < 1000000 := by omega
          obtain ⟨Ao, co, rfl⟩ := Kd.R_slice HS.out.row
          have HE := Aside0.mk he
          have HG2 := Aside0.mk hg
          have HAL := Aside0.mk hal
          clear he hg HG hal
          go_wp2_with (first
            | (go_at_call 74; refine (block_reader_entry.calls (k + 3) (w.heap.size + 1 + 1) rest last ((j : Int) == 0) key val rest2 w _ HS.out.rd HS.out.low HE.out).mono ?_; rintro e w5 ⟨rfl, hI, hB, hK⟩; have HS5 := Aside0.mk (HS.out.call hI hB hK); clear hI hB hK)
            | ((with_reducible refine gate_dst (N := 8) rfl ?_); refine box_event ?hg (N := 8) ?hd (cs := #[.string ⟨#[]⟩, .string ⟨#[]⟩]) (t := 25) ?hr ?_; (case hd => rfl); (case hg => rfl); (case hr => first | (go_simp; done) | (go_simp; rfl)); intro gb hgb w6 hbox hb6; have z0 := (blk_cell hbox 0).trans rfl; have z1 := (blk_cell hbox 1).trans rfl; have fz0 := blk_frozen hbox 0; have fz1 := blk_frozen hbox 1; have HGE := Aside0.mk (Nat.le_of_eq hgb.symm); have HS6 := Aside0.mk (HS5.out.below (y4_ (v := .string val) (j := 1) (y4_ (v := .string key) (j := 0) hb6 (Nat.le_of_eq hgb.symm)) (Nat.le_of_eq hgb.symm))); have HX6 : Aside0 (((w6.setCell ⟨gb, 0, none⟩ (.string key)).setCell ⟨gb, 1, none⟩ (.string val)).heap[gb]? = some (.cells #[.string key, .string val] 25 (0, 0))) := ⟨blk_put (blk_put hbox 0 _ rfl) 1 _ rfl⟩; have q0 : ((w6.setCell ⟨gb, 0, none⟩ (.string key)).setCell ⟨gb, 1, none⟩ (.string val)).cell? ⟨w.heap.size, 0, none⟩ = some (.slice Ao acc.length co) := (by rw [Lib.cell_of_heap HS6.out.out]; rfl); clear hbox hb6 hgb)
            | ((with_reducible refine gate_builtin (b := .append) (xs := #[.tmp 25, .tmp 27]) rfl ?_); at_builtin; refine Kd.R_append k25 (w0 := w) w.heap.size rfl (.tmp 25) (.tmp 27) 22 25 (.agg #[.string ⟨#[]⟩, .string ⟨#[]⟩]) 32 rfl Try.underlying22 info25 rfl (by decide) (by omega) (.slice Ao acc.length co) acc (⟨key, val⟩ : S25) [.string key, .string val] (fun q => q ≠ w.heap.size ∧ q ≠ w.heap.size + 1 ∧ q ≠ w.heap.size + 1 + 1) (fun _ => False) rfl (by first | rfl | (simp [Act.eval, World.setCell]; done) | (go_simp; done) | (go_simp; rfl)) (k25_mkM _ _ _ _) (fun _ hk => hk.elim) HS6.out.fresh HS6.out.row HS6.out.low HS6.out.low.size (by omega) ?_; intro v1 w7 ho hb hg _; obtain ⟨A1, c1, rfl⟩ := Kd.R_slice ho; have HS7 := Aside0.mk (HS6.out.grown hg ho hb); have HX7 := Aside0.mk (block_Unpack.box HS5.out HX6.out HGE.out hg); have HF7 := Aside0.mk (block_Unpack.free HS6.out hg); clear ho hb hg; have f0 := HF7.out.1; have f2 := HF7.out.2; have y0 := HX7.out.1; have y1 := HX7.out.2; have y2 : ¬ (w.heap.size = gb) := fun e => y1 e.symm))
          go_roundw
          case rel => exact ⟨j + 1, key, rest2, acc ++ [(⟨key, val⟩ : S25)], .slice A1 (acc ++ [(⟨key, val⟩ : S25)]).length c1, rfl, by first | rfl | go_num, by omega, by have := HAL.out; simp [this], ⟨by rw [show ((((j + 1 : Nat) : Int)) == 0) = false by rw [beq_eq_false_iff_ne]; omega]; exact HG2.out⟩, ⟨by first | exact HS7.out | (have h_ := HS7.out; simpa using h_)⟩⟩
          case measure => simp [intOf]; omega
        · rw [if_neg hc] at hg
          cases hg
      · simp only [if_neg hz, Option.some.injEq, Prod.mk.injEq] at hg
        obtain ⟨rfl, rfl, rfl⟩ := hg
        have HE := Aside0.mk he
        have HZ := Aside0.mk hz
        have hf := HF.out
        simp only [block_Unpack.fin, ne_eq, hz, not_false_eq_true, if_true, Prod.mk.injEq] at hf
        obtain ⟨rfl, rfl⟩ := hf
        clear he hz HG hal HF
        go_wp2_with (first
          | (go_at_call 74; refine (block_Unpack.entE_bad k (w.heap.size + 1 + 1) rest last ((j : Int) == 0) _ key val rest2 w _ HS.out.rd HS.out.low HE.out HZ.out).mono ?_; rintro e4 w5 ⟨rfl, hB, hK⟩; have HC := Aside0.mk (HS.out.kept hK); have HB := Aside0.mk hB; clear hB hK))
        refine leaves_cons (f := 72) (args := #[.pointer (some ⟨w.heap.size, 0, none⟩), .pointer (some ⟨w.heap.size + 1, 0, none⟩)]) (by simp) (by simp [go_sem]) ?_
        refine (block_Unpack.caught2 w.heap.size (w.heap.size + 1) _ v (.int .i64 0) w _ (by first | exact HC.out.1 | exact z1_ HC.out.1 _ | exact z2_ HC.out.1) (by first | exact HC.out.2 | exact z1_ HC.out.2 _ | exact z2_ HC.out.2) (by omega) (by repeat (first | exact HB.out | apply y1_ | apply y2_ | apply y3_)) (by omega) (by omega)).mono ?_
        rintro e' u' w'' ⟨rfl, rfl, hp, hq, hb⟩
        simp [Leaves, settle, results, Try.results17, go_sem, hp, hq]
        exact ⟨Kd.R_nil _ _ _ _ _, hb⟩
    · obtain rfl : j = n.toNat := by omega
      have hg := HG.out
      rw [Nat.sub_self, block_Unpack.goE] at hg
      simp only [Option.some.injEq, Prod.mk.injEq] at hg
      obtain ⟨rfl, rfl, rfl⟩ := hg
      clear HG hal
      obtain ⟨Ao, co, rfl⟩ := Kd.R_slice HS.out.row
      have c0 := HS.out.out
      have c2 := HS.out.rd.1
      have q0 : wr.cell? ⟨w.heap.size + 1 + 1, 0, none⟩ = some (.string rest) := by rw [Lib.cell_of_heap c2]; rfl
      have q1 : wr.cell? ⟨w.heap.size, 0, none⟩ = some (.slice Ao acc.length co) := by rw [Lib.cell_of_heap c0]; rfl
      have f0 := blk_frozen c0 0
      have f1 := blk_frozen HS.out.err 0
      have q2 : wr.cell? ⟨w.heap.size + 1, 0, none⟩ = some (.int .i64 0) := by rw [Lib.cell_of_heap HS.out.err]; rfl
      clear c0 c2
      by_cases hz : rest.toList = []
      · have hf := HF.out
        simp only [block_Unpack.fin, ne_eq, not_true_eq_false, if_false, if_pos hz, Prod.mk.injEq] at hf
        obtain ⟨rfl, rfl⟩ := hf
        clear HF
        have hz2 : rest.size = 0 := Go.Proofs.YtnklnjghecmihaaW.Ord.toList_eq_nil.1 hz
        go_wp2
        refine leaves_cons (f := 72) (args := #[.pointer (some ⟨w.heap.size, 0, none⟩), .pointer (some ⟨w.heap.size + 1, 0, none⟩)]) (by simp) (by simp [go_sem]) ?_
        refine (block_Unpack.idle ⟨w.heap.size, 0, none⟩ ⟨w.heap.size + 1, 0, none⟩ _).mono ?_
        rintro e u' w'' ⟨rfl, rfl, rfl⟩
        simp [Leaves, settle, results, Try.results17, go_sem, q1, q2]
        exact ⟨Kd.R_mono (Kd.R_far (p := ⟨w.heap.size + 1, 0, none⟩) (Kd.R_far (p := ⟨w.heap.size, 0, none⟩) HS.out.row (fun _ hk => hk.1) _) (fun _ hk => hk.2.1) _) (fun _ _ => trivial), y4_ (y4_ HS.out.low (Nat.le_refl _)) (by omega)⟩
      · have hf := HF.out
        simp only [block_Unpack.fin, ne_eq, not_true_eq_false, if_false, if_neg hz, Prod.mk.injEq] at hf
        obtain ⟨rfl, rfl⟩ := hf
        clear HF
        have hz2 : ¬ (rest.size = 0) := fun h_ => hz (Go.Proofs.YtnklnjghecmihaaW.Ord.toList_eq_nil.2 h_)
        have hz3 : decide (rest.size = 0) = false := decide_eq_false hz2
        have hz4 : (!rest.toList.isEmpty) = true := by simpa using hz
        have hz5 : rest.toList.isEmpty = false := by simpa using hz
        have HC := Aside0.mk (And.intro HS.out.out HS.out.err)
        have HB := Aside0.mk HS.out.low
        go_wp2_with (first
          | (go_at_call 75; refine (block_Unpack.must_gives 3 (by decide) _).mono ?_; rintro e4 w4 ⟨rfl, ⟨nd2, rfl⟩⟩))
        refine leaves_cons (f := 72) (args := #[.pointer (some ⟨w.heap.size, 0, none⟩), .pointer (some ⟨w.heap.size + 1, 0, none⟩)]) (by simp) (by simp [go_sem]) ?_
        refine (block_Unpack.caught2 w.heap.size (w.heap.size + 1) 3 (.slice Ao acc.length co) (.int .i64 0) w _ (by first | exact HC.out.1 | exact z1_ HC.out.1 _ | exact z2_ HC.out.1) (by first | exact HC.out.2 | exact z1_ HC.out.2 _ | exact z2_ HC.out.2) (by omega) (by repeat (first | exact HB.out | apply y1_ | apply y2_ | apply y3_)) (by omega) (by omega)).mono ?_
        rintro e' u' w'' ⟨rfl, rfl, hp, hq, hb⟩
        simp [Leaves, settle, results, Try.results17, go_sem, hp, hq]
        exact ⟨Kd.R_nil _ _ _ _ _, hb⟩
def block_Unpack.f (k : Nat) (s : ByteArray) : Option (List S25 × Int) := (word_TakeNum.f k s).bind fun a => if a.2.2 ≠ 0 then some ([], a.2.2) else (block_Unpack.goE k a.1.toNat true a.2.1 ⟨#[]⟩ []).bind fun u => some (block_Unpack.fin u)
theorem block_Unpack.mono_go (k : Nat) : ∀ (m : Nat) (first : Bool) (rest last : ByteArray) (acc : List S25), LeO (block_Unpack.goE k m first rest last acc) (block_Unpack.goE (k + 1) m first rest last acc)
  | 0, _, _, _, _ => LeO.refl _
  | m + 1, first, rest, last, acc => LeO.bind (block_Unpack.entE_mono _ _ _ _) fun _ => LeO.ite (LeO.ite (block_Unpack.mono_go k m _ _ _ _) (LeO.none _)) (LeO.refl _)
theorem block_Unpack.mono : ∀ a0 k, LeO (block_Unpack.f k a0) (block_Unpack.f (k + 1) a0) := fun a0 k =>
  LeO.bind (word_TakeNum.mono _ _) fun _ => LeO.ite (LeO.refl _) (LeO.bind (block_Unpack.mono_go k _ _ _ _ _) fun _ => LeO.refl _)
theorem block_Unpack.calls (k : Nat) (a0 : ByteArray) (r1 : List S25) (r2 : Int) (w : World) (h : block_Unpack.f k a0 = some (r1, r2)) :
    Calls Try.prog 17 #[.string a0] w fun e w' => ∃ v0_ : Value, e = .returned (.tuple #[v0_, .int .i64 r2]) ∧ Kd.R k25 25 w' w.heap.size (fun _ => True) v0_ r1 ∧ Below w.heap.size w w' := by
  obtain ⟨⟨n, s1, e1⟩, hn, h⟩ := Option.bind_eq_some_iff.1 h
  by_cases h1 : e1 ≠ 0
  · simp only [if_pos h1, Option.some.injEq, Prod.mk.injEq] at h
    obtain ⟨rfl, rfl⟩ := h
    exact (block_Unpack.gives_num k a0 n s1 _ w hn h1).mono (by rintro e w' ⟨rfl, hb⟩; exact ⟨_, rfl, Kd.R_nil _ _ _ _ _, hb⟩)
  · obtain rfl := Decidable.not_not.1 h1
    simp only [if_neg h1] at h
    obtain ⟨⟨u1, u2, u3⟩, hg, h⟩ := Option.bind_eq_some_iff.1 h
    exact block_Unpack.gives_all k a0 n s1 u1 u2 u3 w (block_Unpack.num_of hn) hg r1 r2 (Option.some.inj h)

end Go.Proofs.Ytnklnjghecmihaa.H6
