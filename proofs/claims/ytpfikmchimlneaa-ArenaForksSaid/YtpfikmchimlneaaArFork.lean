/- The arena's Fork. -/
import Derived.Test.YtpfikmchimlneaaArPlays
set_option linter.unusedVariables false
set_option linter.unusedSimpArgs false
namespace Go.Proofs.Ytpfikmchimlneaa.Ar
open Go.Proofs.YtpfikmchimlneaaW.Mine Go.RowKit Go.Proofs.YtpfikmchimlneaaW.PrintWords Go.Proofs.YtpfikmchimlneaaW.PrintWords.Kd Go.Proofs.YtpfikmchimlneaaW.PrintLast Go.Proofs.YtpfikmchimlneaaW.PrintMore Go.Proofs.YtpfikmchimlneaaW.Sl Go.Proofs.YtpfikmchimlneaaW.Ar
variable {B g : Nat} {w W V W' : World} {X X' : Array Value} {r r' : Rf} {v v' : Value} {s s' : St Int}
section
variable {P : Program} {o : Oper} {a : Act} {Q : Exit → Act → World → Prop} {K : Act → World → Prop} {Φ : Value → World → Prop}
theorem wp_append_ex (w : World) (sl x : Operand) (t t' : TypeId) (ho : o.op = .call { callee := .builtin .append, args := #[sl, x], argTypes := #[t, t'] }) (vs vx : Value) (hs : a.eval sl = vs) (hx : a.eval x = vx)
    (hr : ∃ v' w', (Builtin.append_ #[t, t'] o.type #[vs, vx]).run P w = .ok v' w' ∧ Φ v' w') (h : ∀ v' w', Φ v' w' → K (a.put o.dst v') w') : o.wp P a w K Q := by
  obtain ⟨v', w', hr, hp⟩ := hr
  unfold Oper.wp execOp
  simp only [ho, resolve, invoke, builtin, Sem.run_bind, Sem.run_pure, Result.andThen_ok, List.map_toArray, List.map_cons, List.map_nil, hs, hx, hr]
  exact h v' w' hp
end
theorem append_none (W : World) : (Builtin.append_ #[108, 108] 108 #[.slice none 0 0, .slice none 0 0]).run Try.prog W = .ok (.slice none 0 0) W := by
  go_simp
def forkPost (w : World) (s : St Int) (e : Ending) (w' : World) : Prop := e = .returned (.pointer (some ⟨w.heap.size, 0, none⟩)) ∧ Below w.heap.size w w' ∧ ∃ v2, AI w.heap.size w' w.heap.size v2 s
set_option maxHeartbeats 8000000 in
set_option maxRecDepth 100000 in
theorem fork_some (w : World) (gc n c : Nat) (h : AI B w g (.slice (some ⟨gc, 0, none⟩) n c) s) (hn0 : 0 < n) (hl : n < 1000000) :
    Calls Try.prog 26 #[.pointer (some ⟨g, 0, none⟩)] w (forkPost w s) := by
  have b0 := h.c0
  have b1 := h.c1
  have b2 := h.c2
  have b3 := h.c3
  have HH := Aside0.mk h
  clear h
  go_enter Try.func26, Try.ntmps26
  go_wp2_with fail
  have hbx := heap_alloc_new w (.cells #[.slice (some ⟨gc, 0, none⟩) n c, .int .i64 s.free, .int .i64 s.used, .int .i64 s.most] 110)
  have hb0 := (Below.refl w.heap.size w).alloc (Nat.le_refl _) (.cells #[.slice (some ⟨gc, 0, none⟩) n c, .int .i64 s.free, .int .i64 s.used, .int .i64 s.most] 110)
  have HG := Aside0.mk (show (w.alloc (.cells #[.slice (some ⟨gc, 0, none⟩) n c, .int .i64 s.free, .int .i64 s.used, .int .i64 s.most] 110)).drew.heap[g]? = _ from blk_alloc HH.out.blk _)
  have HGL := Aside0.mk HH.out.lt
  have HBX0 := Aside0.mk hbx
  have HB0 := Aside0.mk hb0
  clear hbx hb0 b0 b1 b2 b3
  refine start_ (n := 12) (S := (fun w' => w'.heap[g]? = some (.cells #[.slice (some ⟨gc, 0, none⟩) n c, .int .i64 s.free, .int .i64 s.used, .int .i64 s.most] 110 (0, 0)))) (ds := []) #[false, false, false, false, false, false, false, false, false, false, false, false] (by kernel_rfl) rfl rfl HG.out (fun hHeld => ?_)
  have HV1 := Aside0.mk ((Below.refl (w.alloc (.cells #[.slice (some ⟨gc, 0, none⟩) n c, .int .i64 s.free, .int .i64 s.used, .int .i64 s.most] 110)).heap.size (w.alloc (.cells #[.slice (some ⟨gc, 0, none⟩) n c, .int .i64 s.free, .int .i64 s.used, .int .i64 s.most] 110))).drew)
  have HS42 := Aside0.mk hHeld
  clear hHeld
  generalize (w.alloc (.cells #[.slice (some ⟨gc, 0, none⟩) n c, .int .i64 s.free, .int .i64 s.used, .int .i64 s.most] 110)).drew = V1 at HV1 HS42 ⊢
  refine pure_ (i := 0) (N := some 9) (v := ?_) (a' := ?_) #[true, false, false, false, false, false, false, false, false, false, false, false] rfl rfl (by kernel_rfl) (fun _ _ _ h => h) (Or.inl ⟨by rfl, ?_⟩) ?_ ?_
  rotate_left
  · intro w'
    (go_simp); (with_reducible rfl)
  rotate_left
  · simp only [pt_, pn_, sz_, ss_, i64_w, i32_w]; rfl
  refine pure_ (i := 1) (N := some 10) (v := ?_) (a' := ?_) #[true, true, false, false, false, false, false, false, false, false, false, false] rfl rfl (by kernel_rfl) (fun _ _ _ h => h) (Or.inl ⟨by rfl, ?_⟩) ?_ ?_
  rotate_left
  · intro w'
    (go_simp); (with_reducible rfl)
  rotate_left
  · simp only [pt_, pn_, sz_, ss_, i64_w, i32_w]; rfl
  refine pure_ (i := 2) (N := some 11) (v := ?_) (a' := ?_) #[true, true, true, false, false, false, false, false, false, false, false, false] rfl rfl (by kernel_rfl) (fun _ _ _ h => h) (Or.inl ⟨by rfl, ?_⟩) ?_ ?_
  rotate_left
  · intro w'
    (go_simp); (with_reducible rfl)
  rotate_left
  · simp only [pt_, pn_, sz_, ss_, i64_w, i32_w]; rfl
  refine take_ (i := 3) (N := some 12) (v := .slice (some ⟨gc, 0, none⟩) n c) (a' := ?a3) #[true, true, true, true, false, false, false, false, false, false, false, false] rfl rfl (by kernel_rfl) (fun _ _ _ h => h) (Or.inl ⟨by rfl, fun w' hw' => ?y3⟩) HS42.out ?ha3 ?h3
  case y3 =>
    (have hc := (blk_cell hw' 0).trans rfl; (go_simp; first | done | with_reducible rfl))
  case ha3 => (simp only [pt_, pn_, sz_, ss_, i64_w, i32_w]; rfl)
  refine pure_ (i := 4) (N := some 13) (v := ?_) (a' := ?_) #[true, true, true, true, true, false, false, false, false, false, false, false] rfl rfl (by kernel_rfl) (fun _ _ _ h => h) (Or.inl ⟨by rfl, ?_⟩) ?_ ?_
  rotate_left
  · intro w'
    (go_simp); (with_reducible rfl)
  rotate_left
  · simp only [pt_, pn_, sz_, ss_, i64_w, i32_w]; rfl
  refine pure_ (i := 5) (N := some 14) (v := ?_) (a' := ?_) #[true, true, true, true, true, true, false, false, false, false, false, false] rfl rfl (by kernel_rfl) (fun _ _ _ h => h) (Or.inl ⟨by rfl, ?_⟩) ?_ ?_
  rotate_left
  · intro w'
    (go_simp); (with_reducible rfl)
  rotate_left
  · simp only [pt_, pn_, sz_, ss_, i64_w, i32_w]; rfl
  refine pure_ (i := 6) (N := some 15) (v := ?_) (a' := ?_) #[true, true, true, true, true, true, true, false, false, false, false, false] rfl rfl (by kernel_rfl) (fun _ _ _ h => h) (Or.inl ⟨by rfl, ?_⟩) ?_ ?_
  rotate_left
  · intro w'
    (go_simp); (with_reducible rfl)
  rotate_left
  · simp only [pt_, pn_, sz_, ss_, i64_w, i32_w]; rfl
  refine pure_ (i := 7) (N := some 16) (v := ?_) (a' := ?_) #[true, true, true, true, true, true, true, true, false, false, false, false] rfl rfl (by kernel_rfl) (fun _ _ _ h => h) (Or.inl ⟨by rfl, ?_⟩) ?_ ?_
  rotate_left
  · intro w'
    (go_simp); (with_reducible rfl)
  rotate_left
  · simp only [pt_, pn_, sz_, ss_, i64_w, i32_w]; rfl
  refine take_ (i := 8) (N := some 17) (v := .slice (some ⟨gc, 0, none⟩) n c) (a' := ?a8) #[true, true, true, true, true, true, true, true, true, false, false, false] rfl rfl (by kernel_rfl) (fun _ _ _ h => h) (Or.inl ⟨by rfl, fun w' hw' => ?y8⟩) HS42.out ?ha8 ?h8
  case y8 =>
    (have hc := (blk_cell hw' 0).trans rfl; (go_simp; first | done | with_reducible rfl))
  case ha8 => (simp only [pt_, pn_, sz_, ss_, i64_w, i32_w]; rfl)
  refine one_ (i := 9) (N := some 18) #[true, true, true, true, true, true, true, true, true, true, false, false] rfl rfl (by kernel_rfl) (by decide) (fun K hK => ?_)
  rw [if_pos (by rfl)]
  obtain ⟨hnn, _, hC⟩ := R_reads' (HH.out.keep ((Below.refl w.heap.size w).alloc (Nat.le_refl _) _ |>.trans (HV1.out.mono (by simp)))).row
  have hz : (kc (Value.int .i64) (fun _ => rfl)).C V1 (some ⟨gc, 0, none⟩) 0 [] := ⟨rfl, Nat.zero_le _, fun h => absurd h (by omega)⟩
  refine wp_append_ex V1 (.tmp 13) (.tmp 17) 108 108 rfl (.slice (some ⟨gc, 0, none⟩) 0 0) (.slice (some ⟨gc, 0, none⟩) n c) rfl rfl
    (R_append_run (P := Try.prog) KI kc_flat (by decide) 108 108 142 (.agg #[.int .i64 0, .bool false, .int .i64 0]) 24 Try.underlying108 info142 rfl (by decide) hz (by intro h; cases h) (hnn ▸ hC) (by omega) (by omega)) ?_
  rintro v2 V2 ⟨hR2, hB2⟩
  rw [List.nil_append] at hR2
  obtain ⟨A2, c2, rfl⟩ := R_slice hR2
  rw [← hnn] at hR2 ⊢
  have HS2 := Aside0.mk (blk_below HS42.out hB2)
  have HR2 := Aside0.mk hR2
  have HB2 := Aside0.mk (HV1.out.trans (hB2.mono HV1.out.size))
  have HBX := Aside0.mk (blk_below (blk_below HBX0.out HV1.out) hB2)
  have HNN := Aside0.mk hnn
  clear hR2 hz hC hnn
  refine hK.out _ _ (blk_below HS42.out hB2) (fun hHeld2 => ?_)
  clear hK hHeld2
  refine norm_ (a' := ?_) ?_ ?_
  rotate_left
  · show Act.put _ (some 18) _ = _
    simp only [pt_, pn_, sz_, ss_, i64_w, i32_w]
    rfl
  clear hB2
  refine pure_ (i := 10) (N := some 19) (v := ?_) (a' := ?_) #[true, true, true, true, true, true, true, true, true, true, true, false] rfl rfl (by kernel_rfl) (fun _ _ _ h => h) (Or.inl ⟨by rfl, ?_⟩) ?_ ?_
  rotate_left
  · intro w'
    (go_simp); (with_reducible rfl)
  rotate_left
  · simp only [pt_, pn_, sz_, ss_, i64_w, i32_w]; rfl
  refine one_ (i := 11) (N := none) #[true, true, true, true, true, true, true, true, true, true, true, true] rfl rfl (by kernel_rfl) (by decide) (fun K hK => ?_)
  rw [if_pos (by rfl)]
  have c9 := (blk_cell HBX.out 0).trans rfl
  have f9 := blk_frozen HBX.out 0
  unfold Oper.wp
  rw [show (execOp _ _).run Try.prog V2 = .ok .skip (V2.setCell ⟨w.heap.size, 0, none⟩ (.slice A2 n c2)) from (by go_simp)]
  refine hK.out _ _ (blk_far HS2.out (p := ⟨w.heap.size, 0, none⟩) (by have := HGL.out; show g ≠ w.heap.size; omega) _) (fun hHeld2 => ?_)
  clear hK hHeld2
  refine norm_ (a' := ?_) ?_ ?_
  rotate_left
  · show Act.put _ none _ = _
    simp only [pt_, pn_, sz_, ss_, i64_w, i32_w]
    rfl
  first | (refine done_ (by kernel_rfl) ?_) | skip
  go_wp2
  go_ret
  have hb := HB0.out.trans (HB2.out.mono (by simp))
  refine ⟨rfl, Below.setCell hb (Nat.le_refl _) _, .slice A2 n c2, ?_⟩
  refine At.rows (s := s) (T := 110) (a := .bool true) (b := .bool true) (c := .bool true) (Nat.le_refl _) HBX.out (R_lower HR2.out ?_) (by decide) (fun h => absurd HNN.out (by rw [h]; show ¬ n = 0; omega))
  have := HV1.out.size
  simp at this
  omega
set_option maxHeartbeats 8000000 in
set_option maxRecDepth 100000 in
theorem fork_none (w : World) (h : AI B w g (.slice none 0 0) s) (hs : s.cells = []) :
    Calls Try.prog 26 #[.pointer (some ⟨g, 0, none⟩)] w (forkPost w s) := by
  have b0 := h.c0
  have b1 := h.c1
  have b2 := h.c2
  have b3 := h.c3
  have HH := Aside0.mk h
  clear h
  go_enter Try.func26, Try.ntmps26
  go_wp2_with fail
  have hbx := heap_alloc_new w (.cells #[.slice none 0 0, .int .i64 s.free, .int .i64 s.used, .int .i64 s.most] 110)
  have hb0 := (Below.refl w.heap.size w).alloc (Nat.le_refl _) (.cells #[.slice none 0 0, .int .i64 s.free, .int .i64 s.used, .int .i64 s.most] 110)
  have HG := Aside0.mk (show (w.alloc (.cells #[.slice none 0 0, .int .i64 s.free, .int .i64 s.used, .int .i64 s.most] 110)).drew.heap[g]? = _ from blk_alloc HH.out.blk _)
  have HGL := Aside0.mk HH.out.lt
  have HBX0 := Aside0.mk hbx
  have HB0 := Aside0.mk hb0
  clear hbx hb0 b0 b1 b2 b3
  refine start_ (n := 12) (S := (fun w' => w'.heap[g]? = some (.cells #[.slice none 0 0, .int .i64 s.free, .int .i64 s.used, .int .i64 s.most] 110 (0, 0)))) (ds := []) #[false, false, false, false, false, false, false, false, false, false, false, false] (by kernel_rfl) rfl rfl HG.out (fun hHeld => ?_)
  have HV1 := Aside0.mk ((Below.refl (w.alloc (.cells #[.slice none 0 0, .int .i64 s.free, .int .i64 s.used, .int .i64 s.most] 110)).heap.size (w.alloc (.cells #[.slice none 0 0, .int .i64 s.free, .int .i64 s.used, .int .i64 s.most] 110))).drew)
  have HS42 := Aside0.mk hHeld
  clear hHeld
  generalize (w.alloc (.cells #[.slice none 0 0, .int .i64 s.free, .int .i64 s.used, .int .i64 s.most] 110)).drew = V1 at HV1 HS42 ⊢
  refine pure_ (i := 0) (N := some 9) (v := ?_) (a' := ?_) #[true, false, false, false, false, false, false, false, false, false, false, false] rfl rfl (by kernel_rfl) (fun _ _ _ h => h) (Or.inl ⟨by rfl, ?_⟩) ?_ ?_
  rotate_left
  · intro w'
    (go_simp); (with_reducible rfl)
  rotate_left
  · simp only [pt_, pn_, sz_, ss_, i64_w, i32_w]; rfl
  refine pure_ (i := 1) (N := some 10) (v := ?_) (a' := ?_) #[true, true, false, false, false, false, false, false, false, false, false, false] rfl rfl (by kernel_rfl) (fun _ _ _ h => h) (Or.inl ⟨by rfl, ?_⟩) ?_ ?_
  rotate_left
  · intro w'
    (go_simp); (with_reducible rfl)
  rotate_left
  · simp only [pt_, pn_, sz_, ss_, i64_w, i32_w]; rfl
  refine pure_ (i := 2) (N := some 11) (v := ?_) (a' := ?_) #[true, true, true, false, false, false, false, false, false, false, false, false] rfl rfl (by kernel_rfl) (fun _ _ _ h => h) (Or.inl ⟨by rfl, ?_⟩) ?_ ?_
  rotate_left
  · intro w'
    (go_simp); (with_reducible rfl)
  rotate_left
  · simp only [pt_, pn_, sz_, ss_, i64_w, i32_w]; rfl
  refine take_ (i := 3) (N := some 12) (v := .slice none 0 0) (a' := ?a3) #[true, true, true, true, false, false, false, false, false, false, false, false] rfl rfl (by kernel_rfl) (fun _ _ _ h => h) (Or.inl ⟨by rfl, fun w' hw' => ?y3⟩) HS42.out ?ha3 ?h3
  case y3 =>
    (have hc := (blk_cell hw' 0).trans rfl; (go_simp; first | done | with_reducible rfl))
  case ha3 => (simp only [pt_, pn_, sz_, ss_, i64_w, i32_w]; rfl)
  refine pure_ (i := 4) (N := some 13) (v := ?_) (a' := ?_) #[true, true, true, true, true, false, false, false, false, false, false, false] rfl rfl (by kernel_rfl) (fun _ _ _ h => h) (Or.inl ⟨by rfl, ?_⟩) ?_ ?_
  rotate_left
  · intro w'
    (go_simp); (with_reducible rfl)
  rotate_left
  · simp only [pt_, pn_, sz_, ss_, i64_w, i32_w]; rfl
  refine pure_ (i := 5) (N := some 14) (v := ?_) (a' := ?_) #[true, true, true, true, true, true, false, false, false, false, false, false] rfl rfl (by kernel_rfl) (fun _ _ _ h => h) (Or.inl ⟨by rfl, ?_⟩) ?_ ?_
  rotate_left
  · intro w'
    (go_simp); (with_reducible rfl)
  rotate_left
  · simp only [pt_, pn_, sz_, ss_, i64_w, i32_w]; rfl
  refine pure_ (i := 6) (N := some 15) (v := ?_) (a' := ?_) #[true, true, true, true, true, true, true, false, false, false, false, false] rfl rfl (by kernel_rfl) (fun _ _ _ h => h) (Or.inl ⟨by rfl, ?_⟩) ?_ ?_
  rotate_left
  · intro w'
    (go_simp); (with_reducible rfl)
  rotate_left
  · simp only [pt_, pn_, sz_, ss_, i64_w, i32_w]; rfl
  refine pure_ (i := 7) (N := some 16) (v := ?_) (a' := ?_) #[true, true, true, true, true, true, true, true, false, false, false, false] rfl rfl (by kernel_rfl) (fun _ _ _ h => h) (Or.inl ⟨by rfl, ?_⟩) ?_ ?_
  rotate_left
  · intro w'
    (go_simp); (with_reducible rfl)
  rotate_left
  · simp only [pt_, pn_, sz_, ss_, i64_w, i32_w]; rfl
  refine take_ (i := 8) (N := some 17) (v := .slice none 0 0) (a' := ?a8) #[true, true, true, true, true, true, true, true, true, false, false, false] rfl rfl (by kernel_rfl) (fun _ _ _ h => h) (Or.inl ⟨by rfl, fun w' hw' => ?y8⟩) HS42.out ?ha8 ?h8
  case y8 =>
    (have hc := (blk_cell hw' 0).trans rfl; (go_simp; first | done | with_reducible rfl))
  case ha8 => (simp only [pt_, pn_, sz_, ss_, i64_w, i32_w]; rfl)
  refine one_ (i := 9) (N := some 18) #[true, true, true, true, true, true, true, true, true, true, false, false] rfl rfl (by kernel_rfl) (by decide) (fun K hK => ?_)
  rw [if_pos (by rfl)]
  refine wp_append_ex V1 (.tmp 13) (.tmp 17) 108 108 rfl (.slice none 0 0) (.slice none 0 0) rfl rfl (Φ := fun v' w' => v' = .slice none 0 0 ∧ V1 = w')
    ⟨_, _, append_none V1, rfl, rfl⟩ ?_
  rintro v2 V2 ⟨rfl, hv⟩
  subst hv
  have HBX := Aside0.mk (blk_below HBX0.out HV1.out)
  refine hK.out _ _ HS42.out (fun hHeld2 => ?_)
  clear hK hHeld2
  refine norm_ (a' := ?_) ?_ ?_
  rotate_left
  · show Act.put _ (some 18) _ = _
    simp only [pt_, pn_, sz_, ss_, i64_w, i32_w]
    rfl

  refine pure_ (i := 10) (N := some 19) (v := ?_) (a' := ?_) #[true, true, true, true, true, true, true, true, true, true, true, false] rfl rfl (by kernel_rfl) (fun _ _ _ h => h) (Or.inl ⟨by rfl, ?_⟩) ?_ ?_
  rotate_left
  · intro w'
    (go_simp); (with_reducible rfl)
  rotate_left
  · simp only [pt_, pn_, sz_, ss_, i64_w, i32_w]; rfl
  refine one_ (i := 11) (N := none) #[true, true, true, true, true, true, true, true, true, true, true, true] rfl rfl (by kernel_rfl) (by decide) (fun K hK => ?_)
  rw [if_pos (by rfl)]
  have c9 := (blk_cell HBX.out 0).trans rfl
  have f9 := blk_frozen HBX.out 0
  unfold Oper.wp
  rw [show (execOp _ _).run Try.prog V1 = .ok .skip (V1.setCell ⟨w.heap.size, 0, none⟩ (.slice none 0 0)) from (by go_simp)]
  refine hK.out _ _ (blk_far HS42.out (p := ⟨w.heap.size, 0, none⟩) (by have := HGL.out; show g ≠ w.heap.size; omega) _) (fun hHeld2 => ?_)
  clear hK hHeld2
  refine norm_ (a' := ?_) ?_ ?_
  rotate_left
  · show Act.put _ none _ = _
    simp only [pt_, pn_, sz_, ss_, i64_w, i32_w]
    rfl
  first | (refine done_ (by kernel_rfl) ?_) | skip
  go_wp2
  go_ret
  have hb := HB0.out.trans (HV1.out.mono (by simp))
  refine ⟨rfl, Below.setCell hb (Nat.le_refl _) _, .slice none 0 0, ?_⟩
  exact At.rows (s := s) (T := 110) (a := .bool true) (b := .bool true) (c := .bool true) (Nat.le_refl _) HBX.out (hs ▸ R_nil KI 142 V1 w.heap.size (fun _ => True)) (by decide) (fun _ => rfl)
theorem fork_calls (w : World) (h : AI B w g v s) (hl : s.cells.length < 1000000) : Calls Try.prog 26 #[.pointer (some ⟨g, 0, none⟩)] w (forkPost w s) := by
  by_cases h0 : s.cells = []
  · obtain rfl := h.nil h0
    exact fork_none w h h0
  · have hp : 0 < s.cells.length := List.length_pos_iff.mpr h0
    obtain ⟨gc, c, rfl, _⟩ := h.elem (0, false, 0) 0 hp
    exact fork_some w gc s.cells.length c h hp hl
end Go.Proofs.Ytpfikmchimlneaa.Ar
