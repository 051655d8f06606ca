/- The reference's arena: Take as one, Many. -/
import Derived.Test.YtpfikmchimlneaaArR6
set_option linter.unusedVariables false
set_option linter.unusedSimpArgs false
namespace Go.Proofs.Ytpfikmchimlneaa.Ar
open Go.Proofs.YtpfikmchimlneaaW.Mine Go.RowKit Go.Proofs.YtpfikmchimlneaaW.PrintWords Go.Proofs.YtpfikmchimlneaaW.PrintWords.Kd Go.Proofs.YtpfikmchimlneaaW.PrintLast Go.Proofs.YtpfikmchimlneaaW.PrintMore Go.Proofs.YtpfikmchimlneaaW.Sl Go.Proofs.YtpfikmchimlneaaW.Ar
variable {B g : Nat} {W W' : World} {X : Array Value} {r : Rf}
def rtake (r : Rf) (x : Int) : Option (Rf × Int × Int) :=
  if r.most ≤ (rlen r : Int) then some (r, 0, 9)
  else if 0 ≤ r.top ∧ r.top < 64 ∧ r.back.length < 1000000 then
    match r.back.getLast? with
    | none => if r.top + 1 < 64 then some (rnew r (r.top + 1).toNat x, r.top + 1, 0) else none
    | some i => if 0 ≤ i ∧ i < 64 then some (rold r r.back.dropLast i.toNat x, i, 0) else none
  else none
theorem ref_take (w : World) (h : RV B w X r) (hBw : B ≤ w.heap.size) (x i c : Int) (r' : Rf) (ht : rtake r x = some (r', i, c)) : Calls Try.prog 56 #[.agg X, .int .i64 x] w (told3 B w X r' i c) := by
  unfold rtake at ht
  by_cases h1 : r.most ≤ (rlen r : Int)
  · rw [if_pos h1] at ht
    simp only [Option.some.injEq, Prod.mk.injEq] at ht
    obtain ⟨rfl, rfl, rfl⟩ := ht
    exact ref_take_full w h x h1
  · rw [if_neg h1] at ht
    by_cases h2 : 0 ≤ r.top ∧ r.top < 64 ∧ r.back.length < 1000000
    · rw [if_pos h2] at ht
      cases hb : r.back.getLast? with
      | none =>
        rw [hb] at ht
        simp only at ht
        split at ht
        · rename_i h3
          simp only [Option.some.injEq, Prod.mk.injEq] at ht
          obtain ⟨rfl, rfl, rfl⟩ := ht
          obtain ⟨t, ht⟩ := Int.eq_ofNat_of_zero_le h2.1
          have := ref_take_new w h x (by omega) (by simpa using hb) t ht (by omega)
          rw [ht, show ((t : Int) + 1).toNat = t + 1 by omega]
          exact this
        · cases ht
      | some j =>
        rw [hb] at ht
        simp only at ht
        split at ht
        · rename_i h3
          simp only [Option.some.injEq, Prod.mk.injEq] at ht
          obtain ⟨rfl, rfl, rfl⟩ := ht
          obtain ⟨t, rfl⟩ := Int.eq_ofNat_of_zero_le h3.1
          obtain ⟨ys, hy⟩ := List.getLast?_eq_some_iff.1 hb
          rw [hy, List.dropLast_concat, Int.toNat_natCast]
          have hl := h2.2.2
          rw [hy, List.length_append, List.length_singleton] at hl
          exact ref_take_old w h hBw x (by omega) ys t (by omega) hy (by omega) h2.1 h2.2.1
        · cases ht
    · rw [if_neg h2] at ht
      cases ht
def rmany : Nat → Rf → Int → Option (Rf × List Int)
  | 0, r, _ => some (r, [])
  | n + 1, r, x => (rtake r x).bind fun p => (rmany n p.1 x).map fun q => (q.1, p.2.1 :: q.2)
def toldM (B : Nat) (w : World) (r' : Rf) (l : List Int) (c : Int) (e : Ending) (w' : World) : Prop := ∃ X' A c', e = .returned (.tuple #[.agg X', .slice A l.length c', .int .i64 c]) ∧ RV B w' X' r' ∧ (Kd.int .i64).C w' A l.length l ∧ Below w.heap.size w w'
set_option maxHeartbeats 8000000 in
set_option maxRecDepth 100000 in
theorem ref_many_neg (w : World) (h : RV B w X r) (n x : Int) (hn : n < 0) : Calls Try.prog 58 #[.agg X, .int .i64 n, .int .i64 x] w (toldM B w r [] 2) := by
  obtain ⟨W, hW, hh, hz, hb⟩ := ini w X
  have hhe := blk_alloc hh (.cells #[] 3)
  have hze := blk_alloc hz (.cells #[] 3)
  have hsz : w.heap.size + 2 ≤ W.heap.size := by have := blk_lt hz; omega
  have hnil := R_lower (grown_nil (Kd.int .i64) (W := W) 3 #[] 0 (by decide) rfl) hsz
  have hbe := hb.alloc (by omega) (.cells #[] 3)
  have HW := Aside0.mk hW
  have HNIL := Aside0.mk hnil
  have HS := Aside0.mk hsz
  have HE := Aside0.mk hhe
  have HZE := Aside0.mk hze
  have HB := Aside0.mk hbe
  have HR := Aside0.mk h
  clear hh hz hb h hhe hze hsz hnil hbe
  go_enter Try.func58, Try.ntmps58
  go_wp2_with (first
    | (refine wpList_load_row rfl 42 (.tmp 3) rfl w.heap.size rfl 42 X (0, 0) _ HE.out Try.underlying42 rfl (by rw [HR.out.sz]; exact info42) ?_)
    | (refine wpList_store_row rfl 42 (.tmp 6) (.tmp 17) rfl (w.heap.size + 1) X rfl rfl 42 Try.zeroCells42 HZE.out (by rw [HR.out.sz]; exact info42) (by rw [HR.out.sz]; exact zero42) HR.out.one ?_)
    | fail)
  have hz2 := setRow_heap _ (w.heap.size + 1) Try.zeroCells42 X 42 (0, 0) HZE.out
  refine bodyPost_ret (results_42b rfl rfl rfl rfl HR.out.sz hz2) rfl ?_
  have hb9 := HB.out.grown (setRow_grown _ (w.heap.size + 1) X) HB.out.size (fun k e => by injection e with e; omega)
  exact ⟨X, _, 0, rfl, HR.out.keep hb9, ⟨rfl, Nat.zero_le _, fun h => absurd h (by simp)⟩, hb9⟩
set_option maxHeartbeats 8000000 in
set_option maxRecDepth 100000 in
theorem ref_many_full (w : World) (h : RV B w X r) (n x : Int) (hn0 : 0 ≤ n) (d : Int) (hd : r.most - (rlen r : Int) = d) (hd0 : 0 ≤ d) (hd1 : d < 10000) (hn : d < n) : Calls Try.prog 58 #[.agg X, .int .i64 n, .int .i64 x] w (toldM B w r [] 9) := by
  obtain ⟨W, hW, hh, hz, hb⟩ := ini w X
  have hwr : wrap64 (r.most - (rlen r : Int)) = d := by unfold wrap64; omega
  have HN := Aside0.mk hn
  clear hd hd0 hd1 hn
  have hhe := blk_alloc hh (.cells #[] 3)
  have hze := blk_alloc hz (.cells #[] 3)
  have hsz : w.heap.size + 2 ≤ W.heap.size := by have := blk_lt hz; omega
  have hnil := R_lower (grown_nil (Kd.int .i64) (W := W) 3 #[] 0 (by decide) rfl) hsz
  have hbe := hb.alloc (by omega) (.cells #[] 3)
  have HW := Aside0.mk hW
  have HNIL := Aside0.mk hnil
  have HS := Aside0.mk hsz
  have HE := Aside0.mk hhe
  have HZE := Aside0.mk hze
  have HB := Aside0.mk hbe
  have HR := Aside0.mk h
  clear hh hz hb h hhe hze hsz hnil hbe
  go_enter Try.func58, Try.ntmps58
  go_wp2_with fail
  obtain ⟨W2, hW2⟩ : ∃ W2, (W.alloc (.cells #[] 3)).drew = W2 := ⟨_, rfl⟩
  have HHD := Aside0.mk (show (W.alloc (.cells #[] 3)).drew.heap[w.heap.size]? = some (.cells X 42 (0, 0)) from HE.out)
  have HZD := Aside0.mk (show (W.alloc (.cells #[] 3)).drew.heap[w.heap.size + 1]? = some (.cells Try.zeroCells42 42 (0, 0)) from HZE.out)
  have HBD := Aside0.mk HB.out.drew
  have HND := Aside0.mk (R_drew HNIL.out)
  refine start_ (n := 7) (S := fun w' => w'.heap[w.heap.size]? = some (.cells X 42 (0, 0))) (ds := []) #[false, false, false, false, false, false, false] (by kernel_rfl) rfl rfl HHD.out (fun hHeld => ?_)
  rw [hW2] at HHD HZD HBD HND hHeld ⊢
  clear hHeld hW2
  refine pure_ (i := 0) (N := some 19) (v := ?_) (a' := ?_) #[true, false, false, false, false, false, false] rfl rfl (by kernel_rfl) (fun _ _ _ h => h) (Or.inl ⟨by rfl, ?_⟩) ?_ ?_
  rotate_left
  · intro w'
    (go_simp); (with_reducible rfl)
  rotate_left
  · simp only [pt_, pn_, sz_, ss_, i64_w, i32_w]; rfl
  refine pure_ (i := 1) (N := some 20) (v := ?_) (a' := ?_) #[true, true, false, false, false, false, false] rfl rfl (by kernel_rfl) (fun _ _ _ h => h) (Or.inl ⟨by rfl, ?_⟩) ?_ ?_
  rotate_left
  · intro w'
    (go_simp); (with_reducible rfl)
  rotate_left
  · simp only [pt_, pn_, sz_, ss_, i64_w, i32_w]; rfl
  refine take_ (i := 2) (N := some 21) (v := .int .i64 r.most) (a' := ?a3) #[true, true, true, false, false, false, false] rfl rfl (by kernel_rfl) (fun _ _ _ h => h) (Or.inl ⟨by rfl, fun w' hw' => ?y3⟩) HHD.out ?ha3 ?h3
  case y3 =>
    have hc := (blk_cell hw' 0).trans HR.out.c0
    (go_simp; first | done | with_reducible rfl)
  case ha3 => (simp only [pt_, pn_, sz_, ss_, i64_w, i32_w]; rfl)
  refine take_ (i := 3) (N := some 22) (v := .agg X) (a' := ?_) #[true, true, true, true, false, false, false] rfl rfl (by kernel_rfl) (fun _ _ _ h => h) (Or.inl ⟨by rfl, fun w' hw' => ld42 rfl rfl HR.out.sz hw'⟩) HHD.out ?_ ?_
  rotate_left
  · simp only [pt_, pn_, sz_, ss_, i64_w, i32_w]; rfl
  refine one_ (i := 4) (N := some 23) #[true, true, true, true, true, false, false] rfl rfl (by kernel_rfl) (by decide) (fun K hK => ?_)
  refine goes_ Try.func64 (by kernel_rfl) rfl #[.agg X] (by rfl) rfl rfl (by (try simp only [List.map_toArray, List.map_cons, List.map_nil]); first | done | rfl) ?_
  refine (ref_len _ (HR.out.keep HBD.out)).mono ?_
  rintro e w1 ⟨rfl, hb1⟩
  refine ⟨_, rfl, ?_⟩
  refine hK.out _ _ (blk_below HHD.out hb1) (fun hHeld => ?_)
  have HB1 := Aside0.mk (HBD.out.trans (hb1.mono HBD.out.size))
  have HH1 := Aside0.mk (blk_below HHD.out hb1)
  have HZ1 := Aside0.mk (blk_below HZD.out hb1)
  have HN1 := Aside0.mk (R_below HND.out hb1)
  clear hK hHeld hb1
  refine norm_ (a' := ?_) ?_ ?_
  rotate_left
  · show Act.put _ (some 23) _ = _
    simp only [pt_, pn_, sz_, ss_, i64_w, i32_w]
    rfl
  refine pure_ (i := 5) (N := some 24) (v := ?_) (a' := ?_) #[true, true, true, true, true, true, false] rfl rfl (by kernel_rfl) (fun _ _ _ h => h) (Or.inl ⟨by rfl, ?_⟩) ?_ ?_
  rotate_left
  · intro w'
    (go_simp); (with_reducible rfl)
  rotate_left
  · simp only [pt_, pn_, sz_, ss_, hwr, i64_w, i32_w]; rfl
  refine pure_ (i := 6) (N := some 25) (v := ?_) (a' := ?_) #[true, true, true, true, true, true, true] rfl rfl (by kernel_rfl) (fun _ _ _ h => h) (Or.inl ⟨by rfl, ?_⟩) ?_ ?_
  rotate_left
  · intro w'
    (go_simp); (with_reducible rfl)
  rotate_left
  · simp only [pt_, pn_, sz_, ss_, i64_w, i32_w]; rfl
  refine done_ (by kernel_rfl) ?_
  have hnn := HN.out
  go_wp2_with (first
    | (refine wpList_load_row rfl 42 (.tmp 3) rfl w.heap.size rfl 42 X (0, 0) _ HH1.out Try.underlying42 rfl (by rw [HR.out.sz]; exact info42) ?_)
    | (refine wpList_store_row rfl 42 (.tmp 6) (.tmp 26) rfl (w.heap.size + 1) X rfl rfl 42 Try.zeroCells42 HZ1.out (by rw [HR.out.sz]; exact info42) (by rw [HR.out.sz]; exact zero42) HR.out.one ?_)
    | fail)
  have hz2 := setRow_heap _ (w.heap.size + 1) Try.zeroCells42 X 42 (0, 0) HZ1.out
  refine bodyPost_ret (results_42b rfl rfl rfl rfl HR.out.sz hz2) rfl ?_
  have hb9 := HB1.out.grown (setRow_grown _ (w.heap.size + 1) X) HB1.out.size (fun k e => by injection e with e; omega)
  exact ⟨X, _, 0, rfl, HR.out.keep hb9, ⟨rfl, Nat.zero_le _, fun h => absurd h (by simp)⟩, hb9⟩
end Go.Proofs.Ytpfikmchimlneaa.Ar
