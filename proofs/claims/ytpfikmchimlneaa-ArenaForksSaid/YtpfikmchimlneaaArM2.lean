/- The reference's arena: Many where there is room. -/
import Derived.Test.YtpfikmchimlneaaArM
set_option linter.unusedVariables false
set_option linter.unusedSimpArgs false
namespace Go.Proofs.Ytpfikmchimlneaa.Ar
open Go.Proofs.YtpfikmchimlneaaW.Mine Go.RowKit Go.Proofs.YtpfikmchimlneaaW.PrintWords Go.Proofs.YtpfikmchimlneaaW.PrintWords.Kd Go.Proofs.YtpfikmchimlneaaW.PrintLast Go.Proofs.YtpfikmchimlneaaW.PrintMore Go.Proofs.YtpfikmchimlneaaW.Sl Go.Proofs.YtpfikmchimlneaaW.Ar
variable {B g : Nat} {W W' : World} {X : Array Value} {r : Rf}
theorem R_row {l : List Int} {b : Nat} {v : Value} {cur : Array Value} (h : (Kd.int .i64).R 3 W b (fun _ => True) v l) (hg : W.heap[g]? = some (.cells cur 42 (0, 0))) (Y : Array Value) : (Kd.int .i64).R 3 (W.setRow g Y) b (fun _ => True) v l :=
  R_mono (R_grown (R_types h hg (by intro q hq; simp [Kd.int, Kd.scalar] at hq; omega)) (setRow_grown _ g Y) (fun k hk e => hk.2 (by injection e))) (fun _ _ => trivial)
theorem RV.row (h : RV B W X r) {cur : Array Value} (hg : W.heap[g]? = some (.cells cur 42 (0, 0))) (Y : Array Value) : RV B (W.setRow g Y) X r :=
  ⟨h.sz, h.one, h.c0, h.c1, h.tk, h.vl, by obtain ⟨v, h1, h2⟩ := h.bk; exact ⟨v, h1, R_row h2 hg Y⟩, h.lt, h.lv⟩
theorem blk_row {g2 : Nat} {o : Obj} (h : W.heap[g]? = some o) (hne : g ≠ g2) (Y : Array Value) : (W.setRow g2 Y).heap[g]? = some o := (setRow_other W g2 g Y hne).trans h
/-- what the rounds of Many keep -/
structure RInv (B : Nat) (w : World) (x : Int) (r' : Rf) (l : List Int) (m : Nat) (out : Value) (wr : World) : Prop where mk ::
  out : ∃ rk Xk pre rest, rmany m rk x = some (r', rest) ∧ l = pre ++ rest ∧ pre.length + m < 1000000 ∧ RV B wr Xk rk ∧ wr.heap[w.heap.size]? = some (.cells Xk 42 (0, 0)) ∧ wr.heap[w.heap.size + 1]? = some (.cells Try.zeroCells42 42 (0, 0)) ∧ Below w.heap.size w wr ∧ (Kd.int .i64).R 3 wr (w.heap.size + 2) (fun _ => True) out pre ∧ (∀ k, (bkv Xk).ownBlock = some k → some k ≠ out.ownBlock)
set_option maxHeartbeats 16000000 in
set_option maxRecDepth 100000 in
theorem ref_many_ok (w : World) (h : RV B w X r) (hBw : B ≤ w.heap.size) (n : Nat) (x : Int) (d : Int) (hd : r.most - (rlen r : Int) = d) (hd0 : 0 ≤ d) (hd1 : d < 10000) (hn : (n : Int) ≤ d) (r' : Rf) (l : List Int) (hm : rmany n r x = some (r', l)) : Calls Try.prog 58 #[.agg X, .int .i64 (n : Int), .int .i64 x] w (toldM B w r' l 0) := by
  obtain ⟨W, hW, hh, hz, hb⟩ := ini w X
  have hwr : wrap64 (r.most - (rlen r : Int)) = d := by unfold wrap64; omega
  have hn0 : (0 : Int) ≤ (n : Int) := by omega
  have hn1 : n < 10000 := by omega
  have HN := Aside0.mk hn
  have HM := Aside0.mk hm
  have HBW := Aside0.mk hBw
  clear hd hd0 hd1 hn hm hBw
  have hhe := blk_alloc hh (.cells #[] 3)
  have hze := blk_alloc hz (.cells #[] 3)
  have hsz : w.heap.size + 2 ≤ W.heap.size := by have := blk_lt hz; omega
  have hnil := R_lower (grown_nil (Kd.int .i64) (W := W) 3 #[] 0 (by decide) rfl) hsz
  have hbe := hb.alloc (by omega) (.cells #[] 3)
  have HW := Aside0.mk hW
  have HNIL := Aside0.mk hnil
  have HS := Aside0.mk hsz
  have HE := Aside0.mk hhe
  have HZE := Aside0.mk hze
  have HB := Aside0.mk hbe
  have HR := Aside0.mk h
  clear hh hz hb h hhe hze hsz hnil hbe
  go_enter Try.func58, Try.ntmps58
  go_wp2_with fail
  obtain ⟨W2, hW2⟩ : ∃ W2, (W.alloc (.cells #[] 3)).drew = W2 := ⟨_, rfl⟩
  have HHD := Aside0.mk (show (W.alloc (.cells #[] 3)).drew.heap[w.heap.size]? = some (.cells X 42 (0, 0)) from HE.out)
  have HZD := Aside0.mk (show (W.alloc (.cells #[] 3)).drew.heap[w.heap.size + 1]? = some (.cells Try.zeroCells42 42 (0, 0)) from HZE.out)
  have HBD := Aside0.mk HB.out.drew
  have HND := Aside0.mk (R_drew HNIL.out)
  refine start_ (n := 7) (S := fun w' => w'.heap[w.heap.size]? = some (.cells X 42 (0, 0))) (ds := []) #[false, false, false, false, false, false, false] (by kernel_rfl) rfl rfl HHD.out (fun hHeld => ?_)
  rw [hW2] at HHD HZD HBD HND hHeld ⊢
  clear hHeld hW2
  refine pure_ (i := 0) (N := some 19) (v := ?_) (a' := ?_) #[true, false, false, false, false, false, false] rfl rfl (by kernel_rfl) (fun _ _ _ h => h) (Or.inl ⟨by rfl, ?_⟩) ?_ ?_
  rotate_left
  · intro w'
    (go_simp); (with_reducible rfl)
  rotate_left
  · simp only [pt_, pn_, sz_, ss_, i64_w, i32_w]; rfl
  refine pure_ (i := 1) (N := some 20) (v := ?_) (a' := ?_) #[true, true, false, false, false, false, false] rfl rfl (by kernel_rfl) (fun _ _ _ h => h) (Or.inl ⟨by rfl, ?_⟩) ?_ ?_
  rotate_left
  · intro w'
    (go_simp); (with_reducible rfl)
  rotate_left
  · simp only [pt_, pn_, sz_, ss_, i64_w, i32_w]; rfl
  refine take_ (i := 2) (N := some 21) (v := .int .i64 r.most) (a' := ?a3) #[true, true, true, false, false, false, false] rfl rfl (by kernel_rfl) (fun _ _ _ h => h) (Or.inl ⟨by rfl, fun w' hw' => ?y3⟩) HHD.out ?ha3 ?h3
  case y3 =>
    have hc := (blk_cell hw' 0).trans HR.out.c0
    (go_simp; first | done | with_reducible rfl)
  case ha3 => (simp only [pt_, pn_, sz_, ss_, i64_w, i32_w]; rfl)
  refine take_ (i := 3) (N := some 22) (v := .agg X) (a' := ?_) #[true, true, true, true, false, false, false] rfl rfl (by kernel_rfl) (fun _ _ _ h => h) (Or.inl ⟨by rfl, fun w' hw' => ld42 rfl rfl HR.out.sz hw'⟩) HHD.out ?_ ?_
  rotate_left
  · simp only [pt_, pn_, sz_, ss_, i64_w, i32_w]; rfl
  refine one_ (i := 4) (N := some 23) #[true, true, true, true, true, false, false] rfl rfl (by kernel_rfl) (by decide) (fun K hK => ?_)
  refine goes_ Try.func64 (by kernel_rfl) rfl #[.agg X] (by rfl) rfl rfl (by (try simp only [List.map_toArray, List.map_cons, List.map_nil]); first | done | rfl) ?_
  refine (ref_len _ (HR.out.keep HBD.out)).mono ?_
  rintro e w1 ⟨rfl, hb1⟩
  refine ⟨_, rfl, ?_⟩
  refine hK.out _ _ (blk_below HHD.out hb1) (fun hHeld => ?_)
  have HB1 := Aside0.mk (HBD.out.trans (hb1.mono HBD.out.size))
  have HH1 := Aside0.mk (blk_below HHD.out hb1)
  have HZ1 := Aside0.mk (blk_below HZD.out hb1)
  have HN1 := Aside0.mk (R_below HND.out hb1)
  clear hK hHeld hb1
  refine norm_ (a' := ?_) ?_ ?_
  rotate_left
  · show Act.put _ (some 23) _ = _
    simp only [pt_, pn_, sz_, ss_, i64_w, i32_w]
    rfl
  refine pure_ (i := 5) (N := some 24) (v := ?_) (a' := ?_) #[true, true, true, true, true, true, false] rfl rfl (by kernel_rfl) (fun _ _ _ h => h) (Or.inl ⟨by rfl, ?_⟩) ?_ ?_
  rotate_left
  · intro w'
    (go_simp); (with_reducible rfl)
  rotate_left
  · simp only [pt_, pn_, sz_, ss_, hwr, i64_w, i32_w]; rfl
  refine pure_ (i := 6) (N := some 25) (v := ?_) (a' := ?_) #[true, true, true, true, true, true, true] rfl rfl (by kernel_rfl) (fun _ _ _ h => h) (Or.inl ⟨by rfl, ?_⟩) ?_ ?_
  rotate_left
  · intro w'
    (go_simp); (with_reducible rfl)
  rotate_left
  · simp only [pt_, pn_, sz_, ss_, i64_w, i32_w]; rfl
  refine done_ (by kernel_rfl) ?_
  have hnn := HN.out
  go_wp2_with fail
  have hap : ∀ k, (bkv X).ownBlock = some k → some k ≠ (Value.slice (some ⟨W.heap.size, 0, none⟩) 0 0).ownBlock := by
    intro k hk e
    obtain ⟨v, h1, h2⟩ := HR.out.bk
    rw [bkv_of h1] at hk
    have h3 := R_lt h2 k hk
    have h4 := HS.out
    injection e with e
    have e : k = W.heap.size := e
    omega
  have HI : RInv B w x r' l n (.slice (some ⟨W.heap.size, 0, none⟩) 0 0) w1 := ⟨r, X, [], l, HM.out, rfl, by simp; omega, HR.out.keep HB1.out, HH1.out, HZ1.out, HB1.out, HN1.out, hap⟩
  clear HM HE HZE HB HHD HZD HBD HND HB1 HH1 HZ1 HN1 HNIL hnn hwr HW hW HR
  go_loopw [9, 10] (fun out i wr => ∃ k : Nat, i = .int .i64 (k : Int) ∧ k ≤ n ∧ RInv B w x r' l (n - k) out wr) (fun _ i _ => n - (intOf i).toNat)
  case atStart => exact ⟨0, rfl, Nat.zero_le _, HI⟩
  case round =>
    obtain ⟨k, rfl, hk, HK⟩ := hrel
    clear HI
    by_cases hlt : k < n
    · obtain ⟨m, hm⟩ : ∃ m, n - k = m + 1 := ⟨n - k - 1, by omega⟩
      rw [hm] at HK
      obtain ⟨rk, Xk, pre, rest, hmany, hl, hpm, hR, hX, hZ, hB, hO, hP⟩ := HK.out
      rw [rmany] at hmany
      obtain ⟨⟨r2, i, c⟩, ht, hqq⟩ := Option.bind_eq_some_iff.1 hmany
      obtain ⟨⟨r3, l3⟩, hq, hq2⟩ := Option.map_eq_some_iff.1 hqq
      simp only [Prod.mk.injEq] at hq2
      obtain ⟨rfl, rfl⟩ := hq2
      have hm2 : n - (k + 1) = m := by omega
      have HM2 := Aside0.mk hm2
      have HT := Aside0.mk ht
      have HQ := Aside0.mk hq
      have HL := Aside0.mk hl
      have HPM := Aside0.mk hpm
      have HR := Aside0.mk hR
      have HX := Aside0.mk hX
      have HZ := Aside0.mk hZ
      have HB := Aside0.mk hB
      have HO := Aside0.mk hO
      have HP := Aside0.mk hP
      clear hm hm2 hmany hqq ht hq hl hpm hR hX hZ hB hO hP HK
      go_wp2_with (first
        | (refine wpList_load_row rfl 42 (.tmp 3) rfl w.heap.size rfl 42 Xk (0, 0) _ HX.out Try.underlying42 rfl (by rw [HR.out.sz]; exact info42) ?_)
        | (go_at_call 56; refine (ref_take wr HR.out (Nat.le_trans HBW.out HB.out.size) x i c r2 HT.out).mono ?_; rintro e w2 ⟨X2, rfl, hR2, hB2, hS9⟩; have HS9 := Aside0.mk hS9; clear hS9; have HR2 := Aside0.mk hR2; have hS2 := Nat.le_trans HB.out.size hB2.size; have hwz : w.heap.size + 2 ≤ w2.heap.size := (by have := blk_lt HZ.out; have := hB2.size; omega);
            have HN3 := Aside0.mk (heap_alloc_new w2 (.cells Try.zeroCells42 42)); have hX3 := setRow_heap (w2.alloc (.cells Try.zeroCells42 42)) w2.heap.size Try.zeroCells42 X2 42 (0, 0) HN3.out; have HX3 := Aside0.mk hX3;
            have hG3 := blk_row (blk_alloc (blk_below HX.out hB2) (.cells Try.zeroCells42 42)) (g2 := w2.heap.size) (by omega) X2; have HG3 := Aside0.mk hG3;
            have hZ3 := blk_row (blk_alloc (blk_below HZ.out hB2) (.cells Try.zeroCells42 42)) (g2 := w2.heap.size) (by omega) X2;
            have HG4 := Aside0.mk (setRow_heap _ w.heap.size Xk X2 42 (0, 0) hG3); have HZ4 := Aside0.mk (blk_row hZ3 (g2 := w.heap.size) (by omega) X2);
            have HR4 := Aside0.mk (((hR2.keep ((Below.refl _ w2).alloc (Nat.le_refl _) (.cells Try.zeroCells42 42))).row HN3.out X2).row hG3 X2);
            have HO4 := Aside0.mk (R_row (R_row (R_alloc (R_below HO.out hB2) (.cells Try.zeroCells42 42)) HN3.out X2) hG3 X2);
            have hb4 := (((HB.out.trans (hB2.mono HB.out.size)).alloc hS2 (.cells Try.zeroCells42 42)).grown (setRow_grown _ w2.heap.size X2) (by simp; omega) (fun k e => by injection e with e; omega)).grown (setRow_grown _ w.heap.size X2) (by simp [World.setRow]; omega) (fun k e => by injection e with e; omega);
            have HB4 := Aside0.mk hb4; have HWZ := Aside0.mk hwz; have HRB := Aside0.mk (R_base HO.out); clear hR2 hB2 hX3 hG3 hZ3 hb4 hS2 hwz)
        | (refine wpList_store_row rfl 42 (.tmp 11) (.tmp 37) rfl w2.heap.size X2 rfl rfl 42 Try.zeroCells42 HN3.out (by rw [HR2.out.sz]; exact info42) (by rw [HR2.out.sz]; exact zero42) HR2.out.one ?_)
        | (refine wpList_load_row rfl 42 (.tmp 11) rfl w2.heap.size rfl 42 X2 (0, 0) _ HX3.out Try.underlying42 rfl (by rw [HR2.out.sz]; exact info42) ?_)
        | (refine wpList_store_row rfl 42 (.tmp 3) (.tmp 40) rfl w.heap.size X2 rfl rfl 42 Xk HG3.out (by rw [HR2.out.sz]; exact info42) (by rw [HR2.out.sz, HR.out.sz]) HR2.out.one ?_)
        | ((with_reducible refine gate_builtin (b := .append) (xs := #[.tmp 41, .tmp 43]) rfl ?_); at_builtin; refine Kd.R_append (Kd.int .i64) (w0 := _) (w.heap.size + 2) rfl (.tmp 41) (.tmp 43) 40 3 (.int .i64 0) 8 rfl Try.underlying40 info3 rfl (by decide) (by decide) _ pre i [.int .i64 i] (fun _ => True) (fun _ => False) rfl (by first | rfl | (simp [Act.eval, World.setRow]; done)) rfl (fun _ h => h.elim) (fun _ _ => trivial) HO4.out (Below.refl _ _) (by have := HWZ.out; simp [World.setRow]; omega) (by have := HPM.out; omega) ?_; intro v1 w5 hR9 hB9 hg9 hs9; have HR9 := Aside0.mk hR9; have HG9 := Aside0.mk hg9; have HA9 := Aside0.mk hs9; clear hR9 hB9 hg9 hs9)
        | fail)
      go_roundw
      case rel =>
        have hro : ∀ k, some k = u9.ownBlock → w.heap.size + 2 ≤ k := fun k hk => HRB.out k hk.symm
        have hu9 := R_lt HO.out
        have hap : ∀ k, (bkv X2).ownBlock = some k → some k ≠ u9.ownBlock := by
          intro k hk
          rcases HS9.out with he | ⟨b, he, hb⟩
          · exact HP.out k (by rw [← he]; exact hk)
          · rw [he] at hk
            injection hk with hk
            intro e
            have := hu9 k e.symm
            omega
        have hRV : RV B w5 X2 r2 := HR4.out.grownRow HG9.out hap
        have hap2 : ∀ k, (bkv X2).ownBlock = some k → some k ≠ v1.ownBlock := by
          intro k hk
          rcases HA9.out with he | ⟨b, he, hb⟩
          · rw [he]; exact hap k hk
          · rw [he]
            intro e
            injection e with e
            obtain ⟨v, h1, h2⟩ := HR4.out.bk
            rw [bkv_of h1] at hk
            have := R_lt h2 k hk
            omega
        refine ⟨k + 1, by simp, by omega, ⟨r2, X2, pre ++ [i], _, (by rw [HM2.out]; exact HQ.out), (by rw [HL.out]; simp), (by rw [HM2.out, List.length_append, List.length_singleton]; have := HPM.out; omega), hRV, blk_grown HG4.out HG9.out (fun e => by have := hro _ e; omega), blk_grown HZ4.out HG9.out (fun e => by have := hro _ e; omega), HB4.out.grown HG9.out HB4.out.size (fun k e => by have := hro k e.symm; omega), HR9.out, hap2⟩⟩
      case measure => simp [intOf]; omega
    · obtain rfl : k = n := by omega
      rw [Nat.sub_self] at HK
      obtain ⟨rk, Xk, pre, rest, hmany, hl, hpm, hR, hX, hZ, hB, hO, hP⟩ := HK.out
      simp only [rmany, Option.some.injEq, Prod.mk.injEq] at hmany
      obtain ⟨rfl, rfl⟩ := hmany
      rw [List.append_nil] at hl
      subst hl
      obtain ⟨A, c, rfl⟩ := R_slice hO
      have HR := Aside0.mk hR
      have HX := Aside0.mk hX
      have HZ := Aside0.mk hZ
      have HB := Aside0.mk hB
      have HO := Aside0.mk hO
      clear hR hX hZ hB hO hP HK hlt hpm
      go_wp2_with (first
        | (refine wpList_load_row rfl 42 (.tmp 3) rfl w.heap.size rfl 42 Xk (0, 0) _ HX.out Try.underlying42 rfl (by rw [HR.out.sz]; exact info42) ?_)
        | (refine wpList_store_row rfl 42 (.tmp 6) (.tmp 45) rfl (w.heap.size + 1) Xk rfl rfl 42 Try.zeroCells42 HZ.out (by rw [HR.out.sz]; exact info42) (by rw [HR.out.sz]; exact zero42) HR.out.one ?_)
        | fail)
      have hz2 := setRow_heap _ (w.heap.size + 1) Try.zeroCells42 Xk 42 (0, 0) HZ.out
      refine bodyPost_ret (results_42b rfl rfl rfl rfl HR.out.sz hz2) rfl ?_
      have hb9 := HB.out.grown (setRow_grown _ (w.heap.size + 1) Xk) HB.out.size (fun k e => by injection e with e; omega)
      have h42 : ∀ q, q ∈ 3 :: (Kd.int .i64).E → q ≠ 42 := by intro q hq; simp [Kd.int, Kd.scalar] at hq; omega
      have hO8 := R_grown (R_types HO.out HZ.out h42) (setRow_grown _ (w.heap.size + 1) Xk) (fun k hk e => hk.2 (by injection e))
      obtain ⟨v, h1, h2⟩ := HR.out.bk
      have h8 := R_grown (R_types h2 HZ.out h42) (setRow_grown _ (w.heap.size + 1) Xk) (fun k hk e => hk.2 (by injection e))
      exact ⟨Xk, A, c, rfl, ⟨HR.out.sz, HR.out.one, HR.out.c0, HR.out.c1, HR.out.tk, HR.out.vl, ⟨v, h1, R_mono h8 (fun _ _ => trivial)⟩, HR.out.lt, HR.out.lv⟩, (R_reads' hO8).2.2, hb9⟩
end Go.Proofs.Ytpfikmchimlneaa.Ar
