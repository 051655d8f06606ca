/- law08's step: Many. -/
import Derived.Test.YtpfikmchimlneaaArStep1
set_option linter.unusedVariables false
set_option linter.unusedSimpArgs false
namespace Go.Proofs.Ytpfikmchimlneaa.Ar
open Go.Proofs.YtpfikmchimlneaaW.Mine Go.RowKit Go.Proofs.YtpfikmchimlneaaW.PrintWords Go.Proofs.YtpfikmchimlneaaW.PrintWords.Kd Go.Proofs.YtpfikmchimlneaaW.PrintLast Go.Proofs.YtpfikmchimlneaaW.PrintMore Go.Proofs.YtpfikmchimlneaaW.Sl Go.Proofs.YtpfikmchimlneaaW.Ar
variable {B g : Nat} {w W V W' : World} {X X' : Array Value} {r r' : Rf} {v v' : Value} {s s' : St Int}
set_option maxHeartbeats 8000000 in
set_option maxRecDepth 100000 in
theorem step_many (w : World) (hA : AI B w g v s) (hR : RV B w X r) (hBw : B ≤ w.heap.size) (hbd : Bd s) (hm0 : 0 ≤ r.most) (hm1 : r.most < 5000) (hle : (rlen r : Int) ≤ r.most) (I N c : Int) (l : List Int) (hl : l.length < 1000000) (ha : aMany s N I = some (s', l, c)) (hr : rManyF r N I = some (r', l, c)) :
    Calls Try.prog 20 #[.pointer (some ⟨g, 0, none⟩), .agg X, .agg #[.int .i64 1, .int .i64 I, .int .i64 N]] w (stepPost B w g v s' r') := by
  obtain ⟨W, hW, hSB, hb⟩ := ini3 w X 1 I N
  have HW := Aside0.mk hW
  have HSB := Aside0.mk hSB
  have HA := Aside0.mk (hA.keep hb)
  have HRV := Aside0.mk (hR.keep hb)
  have HO := Aside0.mk (Only.of_below (g := g) (r := v.ownBlock) hb)
  have HBB := Aside0.mk (Nat.le_trans hBw hb.size)
  have HBD := Aside0.mk hbd
  have c0 := (blk_cell hSB.hd 0).trans rfl
  have c1 := (blk_cell hSB.hd 1).trans rfl
  have c2 := (blk_cell hSB.hd 2).trans rfl
  have HTA := Aside0.mk ha
  have HTR := Aside0.mk hr
  have HLL := Aside0.mk hl
  have HM0 := Aside0.mk (And.intro hm0 (And.intro hm1 hle))
  clear hSB hb hA hbd ha hr hBw hl hm0 hm1 hle
  have hXs := hR.sz
  clear hR
  have HXS := Aside0.mk hXs
  clear hXs
  go_enter Try.func20, Try.ntmps20
  go_wp2_with (first
    | (go_at_call 57; refine (many_any W HA.out HBD.out N I c s' l HTA.out).mono ?_; rintro e w1 ⟨A1, cc1, rfl, hC1, hd⟩; have HC1 := Aside0.mk hC1; obtain ⟨v1, hA1, hO1, hS1⟩ := hd.out; have hs1 := HSB.out.only HA.out hO1; have HRV1 := Aside0.mk (HRV.out.only HA.out hO1); have HO1 := Aside0.mk (HO.out.trans (.refl _ _) hO1); have HS1 := Aside0.mk (hS1.mono HO.out.size); have HSB1 := Aside0.mk hs1; have HA1 := Aside0.mk hA1; have HBB1 := Aside0.mk (Nat.le_trans HBB.out hO1.size); have d1 := (blk_cell hs1.hd 1).trans rfl; have d2 := (blk_cell hs1.hd 2).trans rfl; clear hd hA1 hO1 hS1 hs1 hC1)
    | (refine wpList_load_row rfl 42 (.tmp 4) rfl _ rfl 42 X (0, 0) _ HSB1.out.hx Try.underlying42 rfl (by rw [HXS.out]; exact info42) ?_)
    | (go_at_call 58; refine (ref_many w1 HRV1.out HBB1.out N I c r' l HM0.out.1 HM0.out.2.1 HM0.out.2.2 HTR.out).mono ?_; rintro e w2 ⟨X2, A2, cc2, rfl, hR2, hC2, hB2⟩; have HC2 := Aside0.mk hC2; have HB2 := Aside0.mk hB2; have HLT := Aside0.mk (blk_lt (HSB1.out.below hB2).hz); have HR2 := Aside0.mk hR2; obtain ⟨m1, m2, m3, m4⟩ := step_mid (HA1.out.keep hB2) hR2; have HM1 := Aside0.mk m1; have HM2 := Aside0.mk m2; have HM3 := Aside0.mk m3; have HM4 := Aside0.mk m4; have HSB2 := Aside0.mk ((HSB1.out.below hB2).below m4); have HO2 := Aside0.mk (onlyThen (onlyThen HO1.out hB2) m4); have HN2 := Aside0.mk (heap_alloc_new w2 (.cells Try.zeroCells42 42)); clear hR2 hB2 hC2 m1 m2 m3 m4)
    | (refine wpList_store_row rfl 42 (.tmp 15) (.tmp 70) rfl _ X2 rfl rfl 42 Try.zeroCells42 HN2.out (by rw [HR2.out.sz]; exact info42) (by rw [HR2.out.sz]; exact zero42) HR2.out.one ?_)
    | fail)
  refine start_ (n := 11) (S := (fun w' => w'.heap[w2.heap.size]? = some (.cells X2 42 (0, 0)))) (ds := []) #[false, false, false, false, false, false, false, false, false, false, false] (by kernel_rfl) rfl rfl HM3.out (fun hHeld => ?_)
  have HV1 := Aside0.mk ((Below.refl ((w2.alloc (.cells Try.zeroCells42 42)).setRow w2.heap.size X2).heap.size ((w2.alloc (.cells Try.zeroCells42 42)).setRow w2.heap.size X2)).drew)
  have HS42 := Aside0.mk hHeld
  clear hHeld
  generalize ((w2.alloc (.cells Try.zeroCells42 42)).setRow w2.heap.size X2).drew = V1 at HV1 HS42 ⊢
  refine take_ (i := 0) (N := some 73) (v := .agg X2) (a' := ?a0) #[true, false, false, false, false, false, false, false, false, false, false] rfl rfl (by kernel_rfl) (fun _ _ _ h => h) (Or.inl ⟨by rfl, fun w' hw' => ?y0⟩) HS42.out ?ha0 ?h0
  case y0 =>
    exact ld42 rfl rfl HR2.out.sz hw'
  case ha0 => (simp only [pt_, pn_, sz_, ss_, i64_w, i32_w]; rfl)
  refine pure_ (i := 1) (N := some 74) (v := ?_) (a' := ?_) #[true, true, false, false, false, false, false, false, false, false, false] rfl rfl (by kernel_rfl) (fun _ _ _ h => h) (Or.inl ⟨by rfl, ?_⟩) ?_ ?_
  rotate_left
  · intro w'
    (go_simp); (with_reducible rfl)
  rotate_left
  · simp only [pt_, pn_, sz_, ss_, i64_w, i32_w]; rfl
  refine pure_ (i := 2) (N := some 75) (v := ?_) (a' := ?_) #[true, true, true, false, false, false, false, false, false, false, false] rfl rfl (by kernel_rfl) (fun _ _ _ h => h) (Or.inl ⟨by rfl, ?_⟩) ?_ ?_
  rotate_left
  · intro w'
    (go_simp); (with_reducible rfl)
  rotate_left
  · simp only [pt_, pn_, sz_, ss_, i64_w, i32_w]; rfl
  refine one_ (i := 3) (N := some 76) #[true, true, true, true, false, false, false, false, false, false, false] rfl rfl (by kernel_rfl) (by decide) (fun K hK => ?_)
  refine goes_ Try.func59 (by kernel_rfl) rfl #[.slice A1 l.length cc1, .slice A2 l.length cc2] (by rfl) rfl rfl (by (try simp only [List.map_toArray, List.map_cons, List.map_nil]); first | done | rfl) ?_
  refine (numbers_calls V1 A1 A2 cc1 cc2 l (Kd.C_below (Kd.C_below HC1.out HB2.out) (HM4.out.trans (HV1.out.mono HM4.out.size))) (Kd.C_below HC2.out (HM4.out.trans (HV1.out.mono HM4.out.size))) HLL.out).mono ?_
  rintro e w3 ⟨rfl, hb3⟩
  refine ⟨_, rfl, ?_⟩
  refine hK.out _ _ (blk_below HS42.out hb3) (fun hHeld2 => ?_)
  have HB3 := Aside0.mk (HV1.out.trans (hb3.mono HV1.out.size))
  have HS3 := Aside0.mk (blk_below HS42.out hb3)
  clear hb3
  clear hK hHeld2
  refine norm_ (a' := ?_) ?_ ?_
  rotate_left
  · show Act.put _ (some 76) _ = _
    simp only [pt_, pn_, sz_, ss_, i64_w, i32_w]
    rfl
  refine pure_ (i := 4) (N := some 77) (v := ?_) (a' := ?_) #[true, true, true, true, true, false, false, false, false, false, false] rfl rfl (by kernel_rfl) (fun _ _ _ h => h) (Or.inl ⟨by rfl, ?_⟩) ?_ ?_
  rotate_left
  · intro w'
    (go_simp); (with_reducible rfl)
  rotate_left
  · simp only [pt_, pn_, sz_, ss_, i64_w, i32_w]; rfl
  refine pure_ (i := 5) (N := some 78) (v := ?_) (a' := ?_) #[true, true, true, true, true, true, false, false, false, false, false] rfl rfl (by kernel_rfl) (fun _ _ _ h => h) (Or.inl ⟨by rfl, ?_⟩) ?_ ?_
  rotate_left
  · intro w'
    (go_simp); (with_reducible rfl)
  rotate_left
  · simp only [pt_, pn_, sz_, ss_, i64_w, i32_w]; rfl
  refine pure_ (i := 6) (N := some 79) (v := ?_) (a' := ?_) #[true, true, true, true, true, true, true, false, false, false, false] rfl rfl (by kernel_rfl) (fun _ _ _ h => h) (Or.inl ⟨by rfl, ?_⟩) ?_ ?_
  rotate_left
  · intro w'
    (go_simp); (with_reducible rfl)
  rotate_left
  · simp only [pt_, pn_, sz_, ss_, i64_w, i32_w]; rfl
  refine pure_ (i := 7) (N := some 80) (v := ?_) (a' := ?_) #[true, true, true, true, true, true, true, true, false, false, false] rfl rfl (by kernel_rfl) (fun _ _ _ h => h) (Or.inl ⟨by rfl, ?_⟩) ?_ ?_
  rotate_left
  · intro w'
    (go_simp); (with_reducible rfl)
  rotate_left
  · simp only [pt_, pn_, sz_, ss_, i64_w, i32_w]; rfl
  refine pure_ (i := 8) (N := some 81) (v := ?_) (a' := ?_) #[true, true, true, true, true, true, true, true, true, false, false] rfl rfl (by kernel_rfl) (fun _ _ _ h => h) (Or.inl ⟨by rfl, ?_⟩) ?_ ?_
  rotate_left
  · intro w'
    (go_simp); (with_reducible rfl)
  rotate_left
  · simp only [pt_, pn_, sz_, ss_, i64_w, i32_w]; rfl
  have HSB3 := Aside0.mk (HSB2.out.below HB3.out)
  refine one_ (i := 9) (N := none) #[true, true, true, true, true, true, true, true, true, true, false] rfl rfl (by kernel_rfl) (by decide) (fun K hK => ?_)
  rw [if_pos (by rfl)]
  refine wp_store_row 42 (.tmp 6) (.tmp 73) rfl (w.heap.size + 2) X2 rfl rfl 42 Try.zeroCells42 HSB3.out.hz (by rw [HR2.out.sz]; exact info42) (by rw [HR2.out.sz]; exact zero42) HR2.out.one ?_
  refine hK.out _ _ (blk_row HS3.out (by have := HLT.out; omega) X2) (fun hHeld2 => ?_)
  clear hK hHeld2
  refine norm_ (a' := ?_) ?_ ?_
  rotate_left
  · show Act.put _ none _ = _
    simp only [pt_, pn_, sz_, ss_, i64_w, i32_w]
    rfl
  refine pure_ (i := 10) (N := some 7) (v := ?_) (a' := ?_) #[true, true, true, true, true, true, true, true, true, true, true] rfl rfl (by kernel_rfl) (fun _ _ _ h => h) (Or.inl ⟨by rfl, ?_⟩) ?_ ?_
  rotate_left
  · intro w'
    (go_simp); (with_reducible rfl)
  rotate_left
  · simp only [pt_, pn_, sz_, ss_, i64_w, i32_w]; rfl
  refine done_ (by kernel_rfl) ?_
  go_wp2_with fail
  obtain ⟨f1, f2⟩ := step_fin (HM1.out.keep HB3.out) (onlyThen HO2.out HB3.out) HS1.out (HM2.out.keep HB3.out) HSB3.out.hz
  exact bodyPost_ret (results_42a rfl rfl rfl HR2.out.sz (setRow_heap _ _ _ X2 _ _ HSB3.out.hz)) rfl ⟨X2, rfl, f1, f2⟩
end Go.Proofs.Ytpfikmchimlneaa.Ar
