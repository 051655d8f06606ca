/- law08's step: Give, Set. -/
import Derived.Test.YtpfikmchimlneaaArStep2
set_option linter.unusedVariables false
set_option linter.unusedSimpArgs false
namespace Go.Proofs.Ytpfikmchimlneaa.Ar
open Go.Proofs.YtpfikmchimlneaaW.Mine Go.RowKit Go.Proofs.YtpfikmchimlneaaW.PrintWords Go.Proofs.YtpfikmchimlneaaW.PrintWords.Kd Go.Proofs.YtpfikmchimlneaaW.PrintLast Go.Proofs.YtpfikmchimlneaaW.PrintMore Go.Proofs.YtpfikmchimlneaaW.Sl Go.Proofs.YtpfikmchimlneaaW.Ar
variable {B g : Nat} {w W V W' : World} {X X' : Array Value} {r r' : Rf} {v v' : Value} {s s' : St Int}
def aGive (s : St Int) (i : Int) : Option (St Int × Int) := if s.has i = true then (if 0 < s.used then some (give s i, 0) else none) else some (s, 14)
def rGiveF (r : Rf) (i : Int) : Option (Rf × Int) := if rhas r i = true then (if r.back.length < 1000000 then some (rgive r i, 0) else none) else some (r, 14)
def aSet (s : St Int) (i x : Int) : St Int × Int := if s.has i = true then (setv s i x, 0) else (s, 14)
def rSetF (r : Rf) (i x : Int) : Rf × Int := if rhas r i = true then (rset r i x, 0) else (r, 14)
theorem give_any (w : World) (h : AI B w g v s) (hb : Bd s) (i c : Int) (ht : aGive s i = some (s', c)) :
    Calls Try.prog 54 #[.pointer (some ⟨g, 0, none⟩), .int .i64 i] w fun e w' => e = .returned (.int .i64 c) ∧ Does B w g v s' w' := by
  unfold aGive at ht
  by_cases h1 : s.has i = true
  · rw [if_pos h1] at ht
    split at ht
    · rename_i h2
      simp only [Option.some.injEq, Prod.mk.injEq] at ht
      obtain ⟨rfl, rfl⟩ := ht
      exact give_yes_int w h i h1 hb.c h2 (by have := hb.u1; have := hb.m; omega)
    · cases ht
  · rw [if_neg h1] at ht
    simp only [Option.some.injEq, Prod.mk.injEq] at ht
    obtain ⟨rfl, rfl⟩ := ht
    exact (give_no_int w h i (by simpa using h1) hb.c).mono (fun e w' ⟨he, hd⟩ => ⟨he, hd ▸ does_refl h⟩)
theorem set_any (w : World) (h : AI B w g v s) (hb : Bd s) (i x c : Int) (ht : aSet s i x = (s', c)) :
    Calls Try.prog 62 #[.pointer (some ⟨g, 0, none⟩), .int .i64 i, .int .i64 x] w fun e w' => e = .returned (.int .i64 c) ∧ Does B w g v s' w' := by
  unfold aSet at ht
  by_cases h1 : s.has i = true
  · rw [if_pos h1] at ht
    simp only [Prod.mk.injEq] at ht
    obtain ⟨rfl, rfl⟩ := ht
    exact set_yes_int w h i x h1 hb.c
  · rw [if_neg h1] at ht
    simp only [Prod.mk.injEq] at ht
    obtain ⟨rfl, rfl⟩ := ht
    exact (set_no_int w h i x (by simpa using h1) hb.c).mono (fun e w' ⟨he, hd⟩ => ⟨he, hd ▸ does_refl h⟩)
theorem ref_give (w : World) (h : RV B w X r) (hBw : B ≤ w.heap.size) (i c : Int) (ht : rGiveF r i = some (r', c)) : Calls Try.prog 60 #[.agg X, .int .i64 i] w (told2 B w r' c) := by
  unfold rGiveF at ht
  by_cases h1 : rhas r i = true
  · rw [if_pos h1] at ht
    split at ht
    · rename_i h2
      simp only [Option.some.injEq, Prod.mk.injEq] at ht
      obtain ⟨rfl, rfl⟩ := ht
      exact ref_give_yes w h hBw h2 i h1
    · cases ht
  · rw [if_neg h1] at ht
    simp only [Option.some.injEq, Prod.mk.injEq] at ht
    obtain ⟨rfl, rfl⟩ := ht
    exact ref_give_no w h i (by simpa using h1)
theorem ref_set (w : World) (h : RV B w X r) (i x c : Int) (ht : rSetF r i x = (r', c)) : Calls Try.prog 61 #[.agg X, .int .i64 i, .int .i64 x] w (told2 B w r' c) := by
  unfold rSetF at ht
  by_cases h1 : rhas r i = true
  · rw [if_pos h1] at ht
    simp only [Prod.mk.injEq] at ht
    obtain ⟨rfl, rfl⟩ := ht
    exact ref_set_yes w h i x h1
  · rw [if_neg h1] at ht
    simp only [Prod.mk.injEq] at ht
    obtain ⟨rfl, rfl⟩ := ht
    exact ref_set_no w h i x (by simpa using h1)
set_option maxHeartbeats 8000000 in
set_option maxRecDepth 100000 in
theorem step_give (w : World) (hA : AI B w g v s) (hR : RV B w X r) (hBw : B ≤ w.heap.size) (hbd : Bd s) (I N c : Int) (ha : aGive s I = some (s', c)) (hr : rGiveF r I = some (r', c)) :
    Calls Try.prog 20 #[.pointer (some ⟨g, 0, none⟩), .agg X, .agg #[.int .i64 2, .int .i64 I, .int .i64 N]] w (stepPost B w g v s' r') := by
  obtain ⟨W, hW, hSB, hb⟩ := ini3 w X 2 I N
  have HW := Aside0.mk hW
  have HSB := Aside0.mk hSB
  have HA := Aside0.mk (hA.keep hb)
  have HRV := Aside0.mk (hR.keep hb)
  have HO := Aside0.mk (Only.of_below (g := g) (r := v.ownBlock) hb)
  have HBB := Aside0.mk (Nat.le_trans hBw hb.size)
  have HBD := Aside0.mk hbd
  have c0 := (blk_cell hSB.hd 0).trans rfl
  have c1 := (blk_cell hSB.hd 1).trans rfl
  have c2 := (blk_cell hSB.hd 2).trans rfl
  have HTA := Aside0.mk ha
  have HTR := Aside0.mk hr
  clear hb hA hbd ha hr hBw
  have hXs := hR.sz
  clear hR
  have HXS := Aside0.mk hXs
  have hx := hSB.hx
  have HX := Aside0.mk hx
  clear hXs hx hSB
  go_enter Try.func20, Try.ntmps20
  go_wp2_with (first
    | (refine wpList_load_row rfl 42 (.tmp 4) rfl _ rfl 42 X (0, 0) _ (HW.out ▸ HX.out) Try.underlying42 rfl (by rw [HXS.out]; exact info42) ?_; rw [HW.out])
    | (refine wpList_load_row rfl 42 (.tmp 4) rfl _ rfl 42 X (0, 0) _ HX.out Try.underlying42 rfl (by rw [HXS.out]; exact info42) ?_)
    | (go_at_call 60; refine (ref_give W HRV.out HBB.out I c HTR.out).mono ?_; rintro e w2 ⟨X2, rfl, hR2, hB2⟩; have hAk := HA.out.keep hB2; have HLT := Aside0.mk (blk_lt (HSB.out.below hB2).hz); have HR2 := Aside0.mk hR2; obtain ⟨m1, m2, m3, m4⟩ := step_mid hAk hR2; have HM1 := Aside0.mk m1; have HM2 := Aside0.mk m2; have HM3 := Aside0.mk m3; have HM4 := Aside0.mk m4; have HSB2 := Aside0.mk ((HSB.out.below hB2).below m4); have HO2 := Aside0.mk (onlyThen (onlyThen HO.out hB2) m4); have HN2 := Aside0.mk (heap_alloc_new w2 (.cells Try.zeroCells42 42)); clear hR2 hB2 hAk m1 m2 m3 m4)
    | (refine wpList_store_row rfl 42 (.tmp 18) (.tmp 89) rfl _ X2 rfl rfl 42 Try.zeroCells42 HN2.out (by rw [HR2.out.sz]; exact info42) (by rw [HR2.out.sz]; exact zero42) HR2.out.one ?_)
    | fail)
  refine start_ (n := 9) (S := (fun w' => w'.heap[w2.heap.size]? = some (.cells X2 42 (0, 0)) ∧ w'.heap[w.heap.size + 1]? = some (.cells (#[.int .i64 2, .int .i64 I, .int .i64 N]) 46 (0, 0)))) (ds := []) #[false, false, false, false, false, false, false, false, false] (by kernel_rfl) rfl rfl ⟨HM3.out, HSB2.out.hd⟩ (fun hHeld => ?_)
  have HV1 := Aside0.mk ((Below.refl ((w2.alloc (.cells Try.zeroCells42 42)).setRow w2.heap.size X2).heap.size ((w2.alloc (.cells Try.zeroCells42 42)).setRow w2.heap.size X2)).drew)
  have HS42 := Aside0.mk hHeld
  clear hHeld
  generalize ((w2.alloc (.cells Try.zeroCells42 42)).setRow w2.heap.size X2).drew = V1 at HV1 HS42 ⊢
  have HAV := Aside0.mk (HM1.out.keep HV1.out)
  refine take_ (i := 0) (N := some 91) (v := .agg X2) (a' := ?a0) #[true, false, false, false, false, false, false, false, false] rfl rfl (by kernel_rfl) (fun _ _ _ h => h) (Or.inl ⟨by rfl, fun w' hw' => ?y0⟩) HS42.out ?ha0 ?h0
  case y0 =>
    exact ld42 rfl rfl HR2.out.sz hw'.1
  case ha0 => (simp only [pt_, pn_, sz_, ss_, i64_w, i32_w]; rfl)
  refine pure_ (i := 1) (N := some 92) (v := ?_) (a' := ?_) #[true, true, false, false, false, false, false, false, false] rfl rfl (by kernel_rfl) (fun _ _ _ h => h) (Or.inl ⟨by rfl, ?_⟩) ?_ ?_
  rotate_left
  · intro w'
    (go_simp); (with_reducible rfl)
  rotate_left
  · simp only [pt_, pn_, sz_, ss_, i64_w, i32_w]; rfl
  refine pure_ (i := 2) (N := some 93) (v := ?_) (a' := ?_) #[true, true, true, false, false, false, false, false, false] rfl rfl (by kernel_rfl) (fun _ _ _ h => h) (Or.inl ⟨by rfl, ?_⟩) ?_ ?_
  rotate_left
  · intro w'
    (go_simp); (with_reducible rfl)
  rotate_left
  · simp only [pt_, pn_, sz_, ss_, i64_w, i32_w]; rfl
  refine take_ (i := 3) (N := some 94) (v := .int .i64 I) (a' := ?a3) #[true, true, true, true, false, false, false, false, false] rfl rfl (by kernel_rfl) (fun _ _ _ h => h) (Or.inl ⟨by rfl, fun w' hw' => ?y3⟩) HS42.out ?ha3 ?h3
  case y3 =>
    (have hc := (blk_cell hw'.2 1).trans rfl; (go_simp; first | done | with_reducible rfl))
  case ha3 => (simp only [pt_, pn_, sz_, ss_, i64_w, i32_w]; rfl)
  refine pure_ (i := 5) (N := some 96) (v := ?_) (a' := ?_) #[true, true, true, true, false, true, false, false, false] rfl rfl (by kernel_rfl) (fun _ _ _ h => h) (Or.inl ⟨by rfl, ?_⟩) ?_ ?_
  rotate_left
  · intro w'
    (go_simp); (with_reducible rfl)
  rotate_left
  · simp only [pt_, pn_, sz_, ss_, i64_w, i32_w]; rfl
  refine one_ (i := 4) (N := some 95) #[true, true, true, true, true, true, false, false, false] rfl rfl (by kernel_rfl) (by decide) (fun K hK => ?_)
  refine goes_ Try.func54 (by kernel_rfl) rfl #[.pointer (some ⟨g, 0, none⟩), .int .i64 I] (by rfl) rfl rfl (by (try simp only [List.map_toArray, List.map_cons, List.map_nil]); first | done | rfl) ?_
  refine (give_any V1 HAV.out HBD.out I c HTA.out).mono ?_
  rintro e w3 ⟨rfl, hd3⟩
  refine ⟨_, rfl, ?_⟩
  refine hK.out _ _ (by obtain ⟨v3, hA3, hO3, hS3⟩ := hd3.out; exact ⟨blkOf HAV.out hO3 HS42.out.1 (by decide) (by decide), blkOf HAV.out hO3 HS42.out.2 (by decide) (by decide)⟩) (fun hHeld2 => ?_)
  obtain ⟨v3, hA3, hO3, hS3⟩ := hd3.out
  have HS3 := Aside0.mk (blkOf HAV.out hO3 HS42.out.1 (by decide) (by decide))
  have HSB3 := Aside0.mk ((HSB2.out.below HV1.out).only HAV.out hO3)
  have HA3 := Aside0.mk hA3
  have HR3 := Aside0.mk ((HM2.out.keep HV1.out).only HAV.out hO3)
  have HSV := Aside0.mk (hS3.mono (Nat.le_trans HO2.out.size HV1.out.size))
  have HO3 := Aside0.mk ((onlyThen HO2.out HV1.out).trans (.refl _ _) hO3)
  clear hd3 hA3 hO3 hS3
  clear hK hHeld2
  refine norm_ (a' := ?_) ?_ ?_
  rotate_left
  · show Act.put _ (some 95) _ = _
    simp only [pt_, pn_, sz_, ss_, i64_w, i32_w]
    rfl
  refine pure_ (i := 6) (N := some 97) (v := ?_) (a' := ?_) #[true, true, true, true, true, true, true, false, false] rfl rfl (by kernel_rfl) (fun _ _ _ h => h) (Or.inl ⟨by rfl, ?_⟩) ?_ ?_
  rotate_left
  · intro w'
    (go_simp); (with_reducible rfl)
  rotate_left
  · simp only [pt_, pn_, sz_, ss_, i64_w, i32_w]; rfl
  refine one_ (i := 7) (N := none) #[true, true, true, true, true, true, true, true, false] rfl rfl (by kernel_rfl) (by decide) (fun K hK => ?_)
  rw [if_pos (by rfl)]
  refine wp_store_row 42 (.tmp 6) (.tmp 91) rfl (w.heap.size + 2) X2 rfl rfl 42 Try.zeroCells42 HSB3.out.hz (by rw [HR2.out.sz]; exact info42) (by rw [HR2.out.sz]; exact zero42) HR2.out.one ?_
  refine hK.out _ _ ⟨blk_row HS3.out (by have := HLT.out; omega) X2, blk_row HSB3.out.hd (by omega) X2⟩ (fun hHeld2 => ?_)
  clear hK hHeld2
  refine norm_ (a' := ?_) ?_ ?_
  rotate_left
  · show Act.put _ none _ = _
    simp only [pt_, pn_, sz_, ss_, i64_w, i32_w]
    rfl
  refine pure_ (i := 8) (N := some 7) (v := ?_) (a' := ?_) #[true, true, true, true, true, true, true, true, true] rfl rfl (by kernel_rfl) (fun _ _ _ h => h) (Or.inl ⟨by rfl, ?_⟩) ?_ ?_
  rotate_left
  · intro w'
    (go_simp); (with_reducible rfl)
  rotate_left
  · simp only [pt_, pn_, sz_, ss_, i64_w, i32_w]; rfl
  refine done_ (by kernel_rfl) ?_
  go_wp2_with fail
  obtain ⟨f1, f2⟩ := step_fin HA3.out HO3.out HSV.out HR3.out HSB3.out.hz
  exact bodyPost_ret (results_42a rfl rfl rfl HR2.out.sz (setRow_heap _ _ _ X2 _ _ HSB3.out.hz)) rfl ⟨X2, rfl, f1, f2⟩
set_option maxHeartbeats 8000000 in
set_option maxRecDepth 100000 in
theorem step_set (w : World) (hA : AI B w g v s) (hR : RV B w X r) (hBw : B ≤ w.heap.size) (hbd : Bd s) (I N c : Int) (ha : aSet s I N = (s', c)) (hr : rSetF r I N = (r', c)) :
    Calls Try.prog 20 #[.pointer (some ⟨g, 0, none⟩), .agg X, .agg #[.int .i64 3, .int .i64 I, .int .i64 N]] w (stepPost B w g v s' r') := by
  obtain ⟨W, hW, hSB, hb⟩ := ini3 w X 3 I N
  have HW := Aside0.mk hW
  have HSB := Aside0.mk hSB
  have HA := Aside0.mk (hA.keep hb)
  have HRV := Aside0.mk (hR.keep hb)
  have HO := Aside0.mk (Only.of_below (g := g) (r := v.ownBlock) hb)
  have HBB := Aside0.mk (Nat.le_trans hBw hb.size)
  have HBD := Aside0.mk hbd
  have c0 := (blk_cell hSB.hd 0).trans rfl
  have c1 := (blk_cell hSB.hd 1).trans rfl
  have c2 := (blk_cell hSB.hd 2).trans rfl
  have HTA := Aside0.mk ha
  have HTR := Aside0.mk hr
  clear hb hA hbd ha hr hBw
  have hXs := hR.sz
  clear hR
  have HXS := Aside0.mk hXs
  have hx := hSB.hx
  have HX := Aside0.mk hx
  clear hXs hx hSB
  go_enter Try.func20, Try.ntmps20
  go_wp2_with (first
    | (refine wpList_load_row rfl 42 (.tmp 4) rfl _ rfl 42 X (0, 0) _ (HW.out ▸ HX.out) Try.underlying42 rfl (by rw [HXS.out]; exact info42) ?_; rw [HW.out])
    | (refine wpList_load_row rfl 42 (.tmp 4) rfl _ rfl 42 X (0, 0) _ HX.out Try.underlying42 rfl (by rw [HXS.out]; exact info42) ?_)
    | (go_at_call 61; refine (ref_set W HRV.out I N c HTR.out).mono ?_; rintro e w2 ⟨X2, rfl, hR2, hB2⟩; have hAk := HA.out.keep hB2; have HLT := Aside0.mk (blk_lt (HSB.out.below hB2).hz); have HR2 := Aside0.mk hR2; obtain ⟨m1, m2, m3, m4⟩ := step_mid hAk hR2; have HM1 := Aside0.mk m1; have HM2 := Aside0.mk m2; have HM3 := Aside0.mk m3; have HM4 := Aside0.mk m4; have HSB2 := Aside0.mk ((HSB.out.below hB2).below m4); have HO2 := Aside0.mk (onlyThen (onlyThen HO.out hB2) m4); have HN2 := Aside0.mk (heap_alloc_new w2 (.cells Try.zeroCells42 42)); clear hR2 hB2 hAk m1 m2 m3 m4)
    | (refine wpList_store_row rfl 42 (.tmp 20) (.tmp 107) rfl _ X2 rfl rfl 42 Try.zeroCells42 HN2.out (by rw [HR2.out.sz]; exact info42) (by rw [HR2.out.sz]; exact zero42) HR2.out.one ?_)
    | fail)
  refine start_ (n := 11) (S := (fun w' => w'.heap[w2.heap.size]? = some (.cells X2 42 (0, 0)) ∧ w'.heap[w.heap.size + 1]? = some (.cells (#[.int .i64 3, .int .i64 I, .int .i64 N]) 46 (0, 0)))) (ds := []) #[false, false, false, false, false, false, false, false, false, false, false] (by kernel_rfl) rfl rfl ⟨HM3.out, HSB2.out.hd⟩ (fun hHeld => ?_)
  have HV1 := Aside0.mk ((Below.refl ((w2.alloc (.cells Try.zeroCells42 42)).setRow w2.heap.size X2).heap.size ((w2.alloc (.cells Try.zeroCells42 42)).setRow w2.heap.size X2)).drew)
  have HS42 := Aside0.mk hHeld
  clear hHeld
  generalize ((w2.alloc (.cells Try.zeroCells42 42)).setRow w2.heap.size X2).drew = V1 at HV1 HS42 ⊢
  have HAV := Aside0.mk (HM1.out.keep HV1.out)
  refine take_ (i := 0) (N := some 109) (v := .agg X2) (a' := ?a0) #[true, false, false, false, false, false, false, false, false, false, false] rfl rfl (by kernel_rfl) (fun _ _ _ h => h) (Or.inl ⟨by rfl, fun w' hw' => ?y0⟩) HS42.out ?ha0 ?h0
  case y0 =>
    exact ld42 rfl rfl HR2.out.sz hw'.1
  case ha0 => (simp only [pt_, pn_, sz_, ss_, i64_w, i32_w]; rfl)
  refine pure_ (i := 1) (N := some 110) (v := ?_) (a' := ?_) #[true, true, false, false, false, false, false, false, false, false, false] rfl rfl (by kernel_rfl) (fun _ _ _ h => h) (Or.inl ⟨by rfl, ?_⟩) ?_ ?_
  rotate_left
  · intro w'
    (go_simp); (with_reducible rfl)
  rotate_left
  · simp only [pt_, pn_, sz_, ss_, i64_w, i32_w]; rfl
  refine pure_ (i := 2) (N := some 111) (v := ?_) (a' := ?_) #[true, true, true, false, false, false, false, false, false, false, false] rfl rfl (by kernel_rfl) (fun _ _ _ h => h) (Or.inl ⟨by rfl, ?_⟩) ?_ ?_
  rotate_left
  · intro w'
    (go_simp); (with_reducible rfl)
  rotate_left
  · simp only [pt_, pn_, sz_, ss_, i64_w, i32_w]; rfl
  refine take_ (i := 3) (N := some 112) (v := .int .i64 I) (a' := ?a3) #[true, true, true, true, false, false, false, false, false, false, false] rfl rfl (by kernel_rfl) (fun _ _ _ h => h) (Or.inl ⟨by rfl, fun w' hw' => ?y3⟩) HS42.out ?ha3 ?h3
  case y3 =>
    (have hc := (blk_cell hw'.2 1).trans rfl; (go_simp; first | done | with_reducible rfl))
  case ha3 => (simp only [pt_, pn_, sz_, ss_, i64_w, i32_w]; rfl)
  refine pure_ (i := 4) (N := some 113) (v := ?_) (a' := ?_) #[true, true, true, true, true, false, false, false, false, false, false] rfl rfl (by kernel_rfl) (fun _ _ _ h => h) (Or.inl ⟨by rfl, ?_⟩) ?_ ?_
  rotate_left
  · intro w'
    (go_simp); (with_reducible rfl)
  rotate_left
  · simp only [pt_, pn_, sz_, ss_, i64_w, i32_w]; rfl
  refine take_ (i := 5) (N := some 114) (v := .int .i64 N) (a' := ?a5) #[true, true, true, true, true, true, false, false, false, false, false] rfl rfl (by kernel_rfl) (fun _ _ _ h => h) (Or.inl ⟨by rfl, fun w' hw' => ?y5⟩) HS42.out ?ha5 ?h5
  case y5 =>
    (have hc := (blk_cell hw'.2 2).trans rfl; (go_simp; first | done | with_reducible rfl))
  case ha5 => (simp only [pt_, pn_, sz_, ss_, i64_w, i32_w]; rfl)
  refine pure_ (i := 7) (N := some 116) (v := ?_) (a' := ?_) #[true, true, true, true, true, true, false, true, false, false, false] rfl rfl (by kernel_rfl) (fun _ _ _ h => h) (Or.inl ⟨by rfl, ?_⟩) ?_ ?_
  rotate_left
  · intro w'
    (go_simp); (with_reducible rfl)
  rotate_left
  · simp only [pt_, pn_, sz_, ss_, i64_w, i32_w]; rfl
  refine one_ (i := 6) (N := some 115) #[true, true, true, true, true, true, true, true, false, false, false] rfl rfl (by kernel_rfl) (by decide) (fun K hK => ?_)
  refine goes_ Try.func62 (by kernel_rfl) rfl #[.pointer (some ⟨g, 0, none⟩), .int .i64 I, .int .i64 N] (by rfl) rfl rfl (by (try simp only [List.map_toArray, List.map_cons, List.map_nil]); first | done | rfl) ?_
  refine (set_any V1 HAV.out HBD.out I N c HTA.out).mono ?_
  rintro e w3 ⟨rfl, hd3⟩
  refine ⟨_, rfl, ?_⟩
  refine hK.out _ _ (by obtain ⟨v3, hA3, hO3, hS3⟩ := hd3.out; exact ⟨blkOf HAV.out hO3 HS42.out.1 (by decide) (by decide), blkOf HAV.out hO3 HS42.out.2 (by decide) (by decide)⟩) (fun hHeld2 => ?_)
  obtain ⟨v3, hA3, hO3, hS3⟩ := hd3.out
  have HS3 := Aside0.mk (blkOf HAV.out hO3 HS42.out.1 (by decide) (by decide))
  have HSB3 := Aside0.mk ((HSB2.out.below HV1.out).only HAV.out hO3)
  have HA3 := Aside0.mk hA3
  have HR3 := Aside0.mk ((HM2.out.keep HV1.out).only HAV.out hO3)
  have HSV := Aside0.mk (hS3.mono (Nat.le_trans HO2.out.size HV1.out.size))
  have HO3 := Aside0.mk ((onlyThen HO2.out HV1.out).trans (.refl _ _) hO3)
  clear hd3 hA3 hO3 hS3
  clear hK hHeld2
  refine norm_ (a' := ?_) ?_ ?_
  rotate_left
  · show Act.put _ (some 115) _ = _
    simp only [pt_, pn_, sz_, ss_, i64_w, i32_w]
    rfl
  refine pure_ (i := 8) (N := some 117) (v := ?_) (a' := ?_) #[true, true, true, true, true, true, true, true, true, false, false] rfl rfl (by kernel_rfl) (fun _ _ _ h => h) (Or.inl ⟨by rfl, ?_⟩) ?_ ?_
  rotate_left
  · intro w'
    (go_simp); (with_reducible rfl)
  rotate_left
  · simp only [pt_, pn_, sz_, ss_, i64_w, i32_w]; rfl
  refine one_ (i := 9) (N := none) #[true, true, true, true, true, true, true, true, true, true, false] rfl rfl (by kernel_rfl) (by decide) (fun K hK => ?_)
  rw [if_pos (by rfl)]
  refine wp_store_row 42 (.tmp 6) (.tmp 109) rfl (w.heap.size + 2) X2 rfl rfl 42 Try.zeroCells42 HSB3.out.hz (by rw [HR2.out.sz]; exact info42) (by rw [HR2.out.sz]; exact zero42) HR2.out.one ?_
  refine hK.out _ _ ⟨blk_row HS3.out (by have := HLT.out; omega) X2, blk_row HSB3.out.hd (by omega) X2⟩ (fun hHeld2 => ?_)
  clear hK hHeld2
  refine norm_ (a' := ?_) ?_ ?_
  rotate_left
  · show Act.put _ none _ = _
    simp only [pt_, pn_, sz_, ss_, i64_w, i32_w]
    rfl
  refine pure_ (i := 10) (N := some 7) (v := ?_) (a' := ?_) #[true, true, true, true, true, true, true, true, true, true, true] rfl rfl (by kernel_rfl) (fun _ _ _ h => h) (Or.inl ⟨by rfl, ?_⟩) ?_ ?_
  rotate_left
  · intro w'
    (go_simp); (with_reducible rfl)
  rotate_left
  · simp only [pt_, pn_, sz_, ss_, i64_w, i32_w]; rfl
  refine done_ (by kernel_rfl) ?_
  go_wp2_with fail
  obtain ⟨f1, f2⟩ := step_fin HA3.out HO3.out HSV.out HR3.out HSB3.out.hz
  exact bodyPost_ret (results_42a rfl rfl rfl HR2.out.sz (setRow_heap _ _ _ X2 _ _ HSB3.out.hz)) rfl ⟨X2, rfl, f1, f2⟩
end Go.Proofs.Ytpfikmchimlneaa.Ar
