/- The law ArenaForks, walked: true. -/
import Derived.Test.YtpfikmchimlneaaArF2
set_option linter.unusedVariables false
set_option linter.unusedSimpArgs false
namespace Go.Proofs.Ytpfikmchimlneaa.Ar
open Go.Proofs.YtpfikmchimlneaaW.Mine Go.RowKit Go.Proofs.YtpfikmchimlneaaW.PrintWords Go.Proofs.YtpfikmchimlneaaW.PrintWords.Kd Go.Proofs.YtpfikmchimlneaaW.PrintLast Go.Proofs.YtpfikmchimlneaaW.PrintMore Go.Proofs.YtpfikmchimlneaaW.Sl Go.Proofs.YtpfikmchimlneaaW.Ar
variable {B g : Nat} {w W V W' : World} {X X' : Array Value} {r r' : Rf} {v v' : Value} {s s' : St Int}
/-- what ArenaForks' rounds keep -/
structure FInv (w : World) (g x g' x' : Nat) (W : World) : Prop where mk ::
  out : ∃ X, Two w W g x g' x' X X
set_option maxHeartbeats 64000000 in
set_option maxRecDepth 100000 in
theorem forks_calls (A0 : Option Addr) (n0 c0 : Nat) (l0 : List (Int × Int × Int)) (A1 : Option Addr) (n c1 : Nat) (l : List (Int × Int × Int)) (w : World) (hC0 : kd46.C w A0 n0 l0) (hn0 : n0 ≤ c0) (hC : kd46.C w A1 n l) (hn : n ≤ c1) :
    Calls Try.prog 6 #[.slice A0 n0 c0, .slice A1 n c1] w fun e w' => e = .returned (.bool true) ∧ Below w.heap.size w w' := by
  have HP := Aside0.mk (played_calls A0 n0 c0 l0 w hC0 hn0)
  have HC := Aside0.mk hC
  clear hC hC0
  go_enter Try.func6, Try.ntmps6
  go_wp2_with (first
    | (go_at_call 22; refine HP.out.mono ?_; rintro e w1 ⟨g, X, s, r, v, rfl, hsim, hmost, hA, hR, hb⟩; have HSIM := Aside0.mk hsim; have HA0 := Aside0.mk hA; have HR0 := Aside0.mk hR; have HB0 := Aside0.mk hb; have HN2 := Aside0.mk (heap_alloc_new w1 (.cells Try.zeroCells42 42)); clear hsim hmost hA hR hb)
    | (refine wpList_store_row rfl 42 (.tmp 6) (.tmp 20) rfl w1.heap.size X rfl rfl 42 Try.zeroCells42 HN2.out (by rw [HR0.out.sz]; exact info42) (by rw [HR0.out.sz]; exact zero42) HR0.out.one ?_)
    | fail)
  obtain ⟨gx, hgx⟩ : ∃ gx, w1.heap.size = gx := ⟨_, rfl⟩
  have HGX := Aside0.mk (show w.heap.size ≤ gx from hgx ▸ HB0.out.size)
  have hn9 := HN2.out
  have ha9 : Below w1.heap.size w1 (w1.alloc (.cells Try.zeroCells42 42)) := (Below.refl _ w1).alloc (Nat.le_refl _) _
  rw [hgx] at hn9 ⊢
  obtain ⟨W2, hW2⟩ : ∃ W2, (w1.alloc (.cells Try.zeroCells42 42)).setRow gx X = W2 := ⟨_, rfl⟩
  have HA := Aside0.mk (hW2 ▸ rowset (HA0.out.keep ha9) hn9 X)
  have HR := Aside0.mk (hW2 ▸ (HR0.out.keep ha9).row hn9 X)
  have HX := Aside0.mk (hW2 ▸ setRow_heap _ _ _ X _ _ hn9)
  have HB := Aside0.mk (hW2 ▸ (HB0.out.trans (ha9.mono HB0.out.size)).grown (setRow_grown _ gx X) (Nat.le_trans HB0.out.size ha9.size) (fun j e => by injection e with e; have := HGX.out; omega))
  have HLS := Aside0.mk (show s.cells.length < 1000000 from by have h1 := HSIM.out.le; have h2 := HSIM.out.m2; omega)
  rw [hW2]
  have hlv := @live_calls
  have HLV := Aside0.mk hlv
  clear hlv hn9 hgx hW2 HN2 HA0 HR0 HB0 ha9
  refine start_ (n := 6) (S := (fun w' => w'.heap[gx]? = some (.cells X 42 (0, 0)))) (ds := []) #[false, false, false, false, false, false] (by kernel_rfl) rfl rfl HX.out (fun hHeld => ?_)
  have HV1 := Aside0.mk ((Below.refl W2.heap.size W2).drew)
  have HS42 := Aside0.mk hHeld
  clear hHeld
  generalize W2.drew = V1 at HV1 HS42 ⊢
  have HA1 := Aside0.mk (HA.out.keep HV1.out)
  have HB1 := Aside0.mk (HB.out.trans (HV1.out.mono HB.out.size))
  refine pure_ (i := 0) (N := some 24) (v := ?_) (a' := ?_) #[true, false, false, false, false, false] rfl rfl (by kernel_rfl) (fun _ _ _ h => h) (Or.inl ⟨by rfl, ?_⟩) ?_ ?_
  rotate_left
  · intro w'
    (go_simp); (with_reducible rfl)
  rotate_left
  · simp only [pt_, pn_, sz_, ss_, i64_w, i32_w]; rfl
  refine take_ (i := 2) (N := some 26) (v := .agg X) (a' := ?a2q1) #[true, false, true, false, false, false] rfl rfl (by kernel_rfl) (fun _ _ _ h => h) (Or.inl ⟨by rfl, fun w' hw' => ?y2q1⟩) HS42.out ?ha2q1 ?h2q1
  case y2q1 =>
    exact ld42 rfl rfl HR.out.sz hw'
  case ha2q1 => (simp only [pt_, pn_, sz_, ss_, i64_w, i32_w]; rfl)
  refine join_ (σ := Nat × Nat) 0 #[true, true, true, true, true, true] (fun p => [(25, .pointer (some ⟨p.1, 0, none⟩)), (9, .pointer (some ⟨p.2, 0, none⟩)), (8, .pointer (some ⟨p.1, 0, none⟩))]) (fun p W' => Two w W' g gx p.1 p.2 X X) ?contq1 (fun hcont => ?_)
  rotate_left
  · refine two_ (i := 1) (j := 3) (Ni := some 25) (Nj := some 9) #[true, true, true, false, false, false] #[true, false, true, true, false, false] rfl rfl rfl rfl (by kernel_rfl) (by decide) (by decide) (fun K hK => ?_) (fun K hK => ?_)
    · refine goes_ Try.func26 (by kernel_rfl) rfl #[.pointer (some ⟨g, 0, none⟩)] (by rfl) rfl rfl (by (try simp only [List.map_toArray, List.map_cons, List.map_nil]); first | done | rfl) ?_
      refine (fork_calls V1 HA1.out HLS.out).mono ?_
      rintro e w3 ⟨rfl, hb3, v2, hA3⟩
      refine ⟨_, rfl, ?_⟩
      refine hK.out _ _ (blk_below HS42.out hb3) (fun _ => ?_)
      clear hK
      refine norm_ (a' := ?_) ?_ ?_
      rotate_left
      · show Act.put _ (some 25) _ = _
        simp only [pt_, pn_, sz_, ss_, i64_w, i32_w]
        rfl
      refine one_ (i := 3) (N := some 9) #[true, true, true, true, false, false] rfl rfl (by kernel_rfl) (by decide) (fun K hK => ?_)
      refine value_ (w1 := w3.alloc (.cells Try.zeroCells42 42)) (v := .pointer (some ⟨w3.heap.size, 0, none⟩)) (by rfl) rfl (by go_simp) ?_
      refine hK.out _ _ (blk_alloc (blk_below HS42.out hb3) _) (fun _ => ?_)
      clear hK
      refine norm_ (a' := ?_) ?_ ?_
      rotate_left
      · show Act.put _ (some 9) _ = _
        simp only [pt_, pn_, sz_, ss_, i64_w, i32_w]
        rfl
      refine pure_ (i := 4) (N := some 8) (v := ?_) (a' := ?_) #[true, true, true, true, true, false] rfl rfl (by kernel_rfl) (fun _ _ _ h => h) (Or.inl ⟨by rfl, ?_⟩) ?_ ?_
      rotate_left
      · intro w'
        (go_simp); (with_reducible rfl)
      rotate_left
      · simp only [pt_, pn_, sz_, ss_, i64_w, i32_w]; rfl
      have hF : Two w ((w3.alloc (.cells Try.zeroCells42 42)).setRow w3.heap.size X) g gx V1.heap.size w3.heap.size X X := two_fork (n := V1.heap.size) ((HA1.out.keep hb3).keep ((Below.refl _ w3).alloc (Nat.le_refl _) (.cells Try.zeroCells42 42))) (((HR.out.keep HV1.out).keep hb3).keep ((Below.refl _ w3).alloc (Nat.le_refl _) (.cells Try.zeroCells42 42))) HSIM.out (blk_alloc (blk_below HS42.out hb3) _) HGX.out ((HB1.out.trans (hb3.mono HB1.out.size)).trans (((Below.refl _ w3).alloc (Nat.le_refl _) (.cells Try.zeroCells42 42)).mono (Nat.le_trans HB1.out.size hb3.size))) HB1.out.size HA1.out.lt HA1.out.rlt (hA3.keep ((Below.refl _ w3).alloc (Nat.le_refl _) (.cells Try.zeroCells42 42))) (heap_alloc_new w3 (.cells Try.zeroCells42 42)) (by have := blk_lt HS42.out; have := hb3.size; omega) (Nat.le_trans HB1.out.size hb3.size)
      refine one_ (i := 5) (N := none) #[true, true, true, true, true, true] rfl rfl (by kernel_rfl) (by decide) (fun K hK => ?_)
      rw [if_pos (by rfl)]
      refine wp_store_row 42 (.tmp 9) (.tmp 26) rfl w3.heap.size X rfl rfl 42 Try.zeroCells42 (heap_alloc_new w3 (.cells Try.zeroCells42 42)) (by rw [HR.out.sz]; exact info42) (by rw [HR.out.sz]; exact zero42) HR.out.one ?_
      refine hK.out _ _ hF.blk (fun _ => ?_)
      clear hK
      refine norm_ (a' := ?_) ?_ ?_
      rotate_left
      · show Act.put _ none _ = _
        simp only [pt_, pn_, sz_, ss_, i64_w, i32_w]
        rfl
      refine norm_ ?_ (hcont (V1.heap.size, w3.heap.size) _ hF)
      simp only [putAll, pt_, pn_, sz_, ss_, i64_w, i32_w] <;> rfl
    · refine value_ (w1 := V1.alloc (.cells Try.zeroCells42 42)) (v := .pointer (some ⟨V1.heap.size, 0, none⟩)) (by rfl) rfl (by go_simp) ?_
      refine hK.out _ _ (blk_alloc HS42.out _) (fun _ => ?_)
      clear hK
      refine norm_ (a' := ?_) ?_ ?_
      rotate_left
      · show Act.put _ (some 9) _ = _
        simp only [pt_, pn_, sz_, ss_, i64_w, i32_w]
        rfl
      have hz := heap_alloc_new V1 (.cells Try.zeroCells42 42)
      have HBA := Aside0.mk ((Below.refl _ V1).alloc (Nat.le_refl _) (.cells Try.zeroCells42 42))
      have HSA := Aside0.mk (blk_alloc HS42.out (.cells Try.zeroCells42 42))
      generalize V1.alloc (.cells Try.zeroCells42 42) = VA at hz HBA HSA ⊢
      refine one_ (i := 1) (N := some 25) #[true, true, true, true, false, false] rfl rfl (by kernel_rfl) (by decide) (fun K hK => ?_)
      refine goes_ Try.func26 (by kernel_rfl) rfl #[.pointer (some ⟨g, 0, none⟩)] (by rfl) rfl rfl (by (try simp only [List.map_toArray, List.map_cons, List.map_nil]); first | done | rfl) ?_
      refine (fork_calls VA (HA1.out.keep HBA.out) HLS.out).mono ?_
      rintro e w3 ⟨rfl, hb3, v2, hA3⟩
      refine ⟨_, rfl, ?_⟩
      refine hK.out _ _ (blk_below HSA.out hb3) (fun _ => ?_)
      clear hK
      refine norm_ (a' := ?_) ?_ ?_
      rotate_left
      · show Act.put _ (some 25) _ = _
        simp only [pt_, pn_, sz_, ss_, i64_w, i32_w]
        rfl
      refine pure_ (i := 4) (N := some 8) (v := ?_) (a' := ?_) #[true, true, true, true, true, false] rfl rfl (by kernel_rfl) (fun _ _ _ h => h) (Or.inl ⟨by rfl, ?_⟩) ?_ ?_
      rotate_left
      · intro w'
        (go_simp); (with_reducible rfl)
      rotate_left
      · simp only [pt_, pn_, sz_, ss_, i64_w, i32_w]; rfl
      have hF : Two w (w3.setRow V1.heap.size X) g gx VA.heap.size V1.heap.size X X := two_fork (n := VA.heap.size) ((HA1.out.keep HBA.out).keep hb3) (((HR.out.keep HV1.out).keep HBA.out).keep hb3) HSIM.out (blk_below HSA.out hb3) HGX.out (HB1.out.trans ((HBA.out.mono HB1.out.size).trans (hb3.mono (Nat.le_trans HB1.out.size HBA.out.size)))) (Nat.le_trans HB1.out.size HBA.out.size) (HA1.out.keep HBA.out).lt (HA1.out.keep HBA.out).rlt hA3 (blk_below hz hb3) (by have := blk_lt HS42.out; omega) HB1.out.size
      refine one_ (i := 5) (N := none) #[true, true, true, true, true, true] rfl rfl (by kernel_rfl) (by decide) (fun K hK => ?_)
      rw [if_pos (by rfl)]
      refine wp_store_row 42 (.tmp 9) (.tmp 26) rfl V1.heap.size X rfl rfl 42 Try.zeroCells42 (blk_below hz hb3) (by rw [HR.out.sz]; exact info42) (by rw [HR.out.sz]; exact zero42) HR.out.one ?_
      refine hK.out _ _ hF.blk (fun _ => ?_)
      clear hK
      refine norm_ (a' := ?_) ?_ ?_
      rotate_left
      · show Act.put _ none _ = _
        simp only [pt_, pn_, sz_, ss_, i64_w, i32_w]
        rfl
      refine norm_ ?_ (hcont (VA.heap.size, V1.heap.size) _ hF)
      simp only [putAll, pt_, pn_, sz_, ss_, i64_w, i32_w] <;> rfl
  rintro ⟨g2, x2⟩ W3 hT
  refine norm_ (a' := ?_) ?_ ?_
  rotate_left
  · simp only [putAll, pt_, pn_, sz_, ss_, i64_w, i32_w] <;> rfl
  first | (refine done_ (by kernel_rfl) ?_) | skip
  obtain ⟨X0, hT0⟩ := hT.symm
  have HI : Aside0 (FInv w g2 x2 g gx W3) := ⟨⟨X0, hT0⟩⟩
  clear hT hT0 HA HR HX HB HLS HSIM HGX
  go_wp2_with fail
  go_loopw [10] (fun i wr => ∃ k : Nat, i = .int .i64 (k : Int) ∧ k ≤ n ∧ FInv w g2 x2 g gx wr) (fun i _ => n - (intOf i).toNat)
  case atStart => exact ⟨0, rfl, Nat.zero_le _, HI.out⟩
  case round =>
    obtain ⟨k, rfl, hk, HK⟩ := hrel
    clear HI
    obtain ⟨X, hT⟩ := HK.out
    have HT := Aside0.mk hT
    clear hT HK
    by_cases hlt : k < n ∧ k < 60
    · obtain ⟨hlt, hlt2⟩ := hlt
      have HKN := Aside0.mk hlt
      have hlt3 : (k : Int) < 60 := by omega
      obtain ⟨ad, rfl, _⟩ := deed_at HC.out k hlt
      obtain ⟨⟨D, I, N⟩, hde⟩ : ∃ y, l.getD k (0, 0, 0) = y := ⟨_, rfl⟩
      have HDE := Aside0.mk hde
      clear hde
      go_wp2_with fail
      refine start_ (n := 13) (S := (fun w' => w'.heap[x2]? = some (.cells X 42 (0, 0)) ∧ Below w.heap.size w w')) (ds := []) #[false, false, false, false, false, false, false, false, false, false, false, false, false] (by kernel_rfl) rfl rfl ⟨HT.out.blk, HT.out.bel.drew⟩ (fun hHeld => ?_)
      have HV1 := Aside0.mk ((Below.refl wr.heap.size wr).drew)
      have HS42 := Aside0.mk hHeld
      clear hHeld
      generalize wr.drew = V1 at HV1 HS42 ⊢
      have HT1 := Aside0.mk (HT.out.keep HV1.out)
      refine pure_ (i := 0) (N := some 40) (v := ?_) (a' := ?_) #[true, false, false, false, false, false, false, false, false, false, false, false, false] rfl rfl (by kernel_rfl) (fun _ _ _ h => h) (Or.inl ⟨by rfl, ?_⟩) ?_ ?_
      rotate_left
      · intro w'
        (go_simp); (with_reducible rfl)
      rotate_left
      · simp only [pt_, pn_, sz_, ss_, i64_w, i32_w]; rfl
      refine take_ (i := 1) (N := some 41) (v := .agg X) (a' := ?a1q5) #[true, true, false, false, false, false, false, false, false, false, false, false, false] rfl rfl (by kernel_rfl) (fun _ _ _ h => h) (Or.inl ⟨by rfl, fun w' hw' => ?y1q5⟩) HS42.out ?ha1q5 ?h1q5
      case y1q5 =>
        exact ld42 rfl rfl HT.out.sz hw'.1
      case ha1q5 => (simp only [pt_, pn_, sz_, ss_, i64_w, i32_w]; rfl)
      refine pure_ (i := 2) (N := some 42) (v := ?_) (a' := ?_) #[true, true, true, false, false, false, false, false, false, false, false, false, false] rfl rfl (by kernel_rfl) (fun _ _ _ h => h) (Or.inl ⟨by rfl, ?_⟩) ?_ ?_
      rotate_left
      · intro w'
        (go_simp); (with_reducible rfl)
      rotate_left
      · simp only [pt_, pn_, sz_, ss_, i64_w, i32_w]; rfl
      refine pure_ (i := 3) (N := some 43) (v := ?_) (a' := ?_) #[true, true, true, true, false, false, false, false, false, false, false, false, false] rfl rfl (by kernel_rfl) (fun _ _ _ h => h) (Or.inl ⟨by rfl, ?_⟩) ?_ ?_
      rotate_left
      · intro w'
        (go_simp); (with_reducible rfl)
      rotate_left
      · simp only [pt_, pn_, sz_, ss_, i64_w, i32_w]; rfl
      refine pure_ (i := 4) (N := some 44) (v := ?_) (a' := ?_) #[true, true, true, true, true, false, false, false, false, false, false, false, false] rfl rfl (by kernel_rfl) (fun _ _ _ h => h) (Or.inl ⟨by rfl, ?_⟩) ?_ ?_
      rotate_left
      · intro w'
        (go_simp); (with_reducible rfl)
      rotate_left
      · simp only [pt_, pn_, sz_, ss_, i64_w, i32_w]; rfl
      refine take_ (i := 5) (N := some 45) (v := .agg #[.int .i64 D, .int .i64 I, .int .i64 N]) (a' := ?a5q5) #[true, true, true, true, true, true, false, false, false, false, false, false, false] rfl rfl (by kernel_rfl) (fun _ _ _ h => h) (Or.inl ⟨by rfl, fun w' hw' => ?y5q5⟩) HS42.out ?ha5q5 ?h5q5
      case y5q5 =>
        (obtain ⟨ad2, e0, e1, e2, e3⟩ := deed_at (Kd.C_below HC.out hw'.2) k HKN.out; injection e0 with e0; subst e0; rw [HDE.out] at e1 e2 e3; exact ld46 rfl rfl e1 (by rw [Addr.add_add]; exact e2) (by rw [Addr.add_add]; exact e3))
      case ha5q5 => (simp only [pt_, pn_, sz_, ss_, i64_w, i32_w]; rfl)
      refine join_ (σ := Nat × Array Value) 0 #[true, true, true, true, true, true, true, true, true, true, true, true, true] (fun p => [(46, .tuple #[.agg p.2, .bool true]), (39, .tuple #[.agg p.2, .bool true]), (47, .agg p.2), (48, .bool true), (11, .pointer (some ⟨p.1, 0, none⟩)), (12, .bool true)]) (fun p W' => Two w W' g2 x2 g gx p.2 X ∧ W'.heap[p.1]? = some (.cells p.2 42 (0, 0))) ?contq5 (fun hcont => ?_)
      rotate_left
      · refine two_ (i := 6) (j := 10) (Ni := some 46) (Nj := some 11) #[true, true, true, true, true, true, true, false, false, false, false, false, false] #[true, true, true, true, true, true, false, false, false, false, true, false, false] rfl rfl rfl rfl (by kernel_rfl) (by decide) (by decide) (fun K hK => ?_) (fun K hK => ?_)
        · refine goes_ Try.func20 (by kernel_rfl) rfl #[.pointer (some ⟨g2, 0, none⟩), .agg X, .agg #[.int .i64 D, .int .i64 I, .int .i64 N]] (by rfl) rfl rfl (by (try simp only [List.map_toArray, List.map_cons, List.map_nil]); first | done | rfl) ?_
          refine (HT1.out.step D I N).mono ?_
          rintro e w3 ⟨X3, rfl, hT3, hk3⟩
          refine ⟨_, rfl, ?_⟩
          refine hK.out _ _ ⟨hT3.blk, hT3.bel⟩ (fun _ => ?_)
          clear hK
          refine norm_ (a' := ?_) ?_ ?_
          rotate_left
          · show Act.put _ (some 46) _ = _
            simp only [pt_, pn_, sz_, ss_, i64_w, i32_w]
            rfl
          refine pure_ (i := 7) (N := some 39) (v := ?_) (a' := ?_) #[true, true, true, true, true, true, true, true, false, false, false, false, false] rfl rfl (by kernel_rfl) (fun _ _ _ h => h) (Or.inl ⟨by rfl, ?_⟩) ?_ ?_
          rotate_left
          · intro w'
            (go_simp); (with_reducible rfl)
          rotate_left
          · simp only [pt_, pn_, sz_, ss_, i64_w, i32_w]; rfl
          refine pure_ (i := 8) (N := some 47) (v := ?_) (a' := ?_) #[true, true, true, true, true, true, true, true, true, false, false, false, false] rfl rfl (by kernel_rfl) (fun _ _ _ h => h) (Or.inl ⟨by rfl, ?_⟩) ?_ ?_
          rotate_left
          · intro w'
            (go_simp); (with_reducible rfl)
          rotate_left
          · simp only [pt_, pn_, sz_, ss_, i64_w, i32_w]; rfl
          refine pure_ (i := 9) (N := some 48) (v := ?_) (a' := ?_) #[true, true, true, true, true, true, true, true, true, true, false, false, false] rfl rfl (by kernel_rfl) (fun _ _ _ h => h) (Or.inl ⟨by rfl, ?_⟩) ?_ ?_
          rotate_left
          · intro w'
            (go_simp); (with_reducible rfl)
          rotate_left
          · simp only [pt_, pn_, sz_, ss_, i64_w, i32_w]; rfl
          have hz := heap_alloc_new w3 (.cells Try.zeroCells42 42)
          have hT4 := hT3.keep ((Below.refl _ w3).alloc (Nat.le_refl _) (.cells Try.zeroCells42 42))
          have hg3 := hT3.gx
          have hF : Two w ((w3.alloc (.cells Try.zeroCells42 42)).setRow w3.heap.size X3) g2 x2 g gx X3 X := hT4.fresh hz (by omega) (by omega) (by omega) X3
          have hF2 := setRow_heap _ _ _ X3 _ _ hz
          refine one_ (i := 10) (N := some 11) #[true, true, true, true, true, true, true, true, true, true, true, false, false] rfl rfl (by kernel_rfl) (by decide) (fun K hK => ?_)
          refine value_ (w1 := w3.alloc (.cells Try.zeroCells42 42)) (v := .pointer (some ⟨w3.heap.size, 0, none⟩)) (by rfl) rfl (by go_simp) ?_
          refine hK.out _ _ ⟨hT4.blk, hT4.bel⟩ (fun _ => ?_)
          clear hK
          refine norm_ (a' := ?_) ?_ ?_
          rotate_left
          · show Act.put _ (some 11) _ = _
            simp only [pt_, pn_, sz_, ss_, i64_w, i32_w]
            rfl
          refine one_ (i := 11) (N := none) #[true, true, true, true, true, true, true, true, true, true, true, true, false] rfl rfl (by kernel_rfl) (by decide) (fun K hK => ?_)
          rw [if_pos (by rfl)]
          refine wp_store_row 42 (.tmp 11) (.tmp 47) rfl w3.heap.size X3 rfl rfl 42 Try.zeroCells42 hz (by rw [hT3.sz]; exact info42) (by rw [hT3.sz]; exact zero42) hT3.one ?_
          refine hK.out _ _ ⟨hF.blk, hF.bel⟩ (fun _ => ?_)
          clear hK
          refine norm_ (a' := ?_) ?_ ?_
          rotate_left
          · show Act.put _ none _ = _
            simp only [pt_, pn_, sz_, ss_, i64_w, i32_w]
            rfl
          refine pure_ (i := 12) (N := some 12) (v := ?_) (a' := ?_) #[true, true, true, true, true, true, true, true, true, true, true, true, true] rfl rfl (by kernel_rfl) (fun _ _ _ h => h) (Or.inl ⟨by rfl, ?_⟩) ?_ ?_
          rotate_left
          · intro w'
            (go_simp); (with_reducible rfl)
          rotate_left
          · simp only [pt_, pn_, sz_, ss_, i64_w, i32_w]; rfl
          refine norm_ ?_ (hcont (w3.heap.size, X3) _ ⟨hF, hF2⟩)
          simp only [putAll, pt_, pn_, sz_, ss_, i64_w, i32_w] <;> rfl
        · have hz := heap_alloc_new V1 (.cells Try.zeroCells42 42)
          have hT0 := HT1.out.keep ((Below.refl _ V1).alloc (Nat.le_refl _) (.cells Try.zeroCells42 42))
          have hg1 := HT1.out.gx
          refine value_ (w1 := V1.alloc (.cells Try.zeroCells42 42)) (v := .pointer (some ⟨V1.heap.size, 0, none⟩)) (by rfl) rfl (by go_simp) ?_
          refine hK.out _ _ ⟨hT0.blk, hT0.bel⟩ (fun _ => ?_)
          clear hK
          refine norm_ (a' := ?_) ?_ ?_
          rotate_left
          · show Act.put _ (some 11) _ = _
            simp only [pt_, pn_, sz_, ss_, i64_w, i32_w]
            rfl
          generalize V1.alloc (.cells Try.zeroCells42 42) = VA at hz hT0 ⊢
          refine one_ (i := 6) (N := some 46) #[true, true, true, true, true, true, true, false, false, false, true, false, false] rfl rfl (by kernel_rfl) (by decide) (fun K hK => ?_)
          refine goes_ Try.func20 (by kernel_rfl) rfl #[.pointer (some ⟨g2, 0, none⟩), .agg X, .agg #[.int .i64 D, .int .i64 I, .int .i64 N]] (by rfl) rfl rfl (by (try simp only [List.map_toArray, List.map_cons, List.map_nil]); first | done | rfl) ?_
          refine (hT0.step D I N).mono ?_
          rintro e w3 ⟨X3, rfl, hT3, hk3⟩
          refine ⟨_, rfl, ?_⟩
          refine hK.out _ _ ⟨hT3.blk, hT3.bel⟩ (fun _ => ?_)
          clear hK
          refine norm_ (a' := ?_) ?_ ?_
          rotate_left
          · show Act.put _ (some 46) _ = _
            simp only [pt_, pn_, sz_, ss_, i64_w, i32_w]
            rfl
          refine pure_ (i := 7) (N := some 39) (v := ?_) (a' := ?_) #[true, true, true, true, true, true, true, true, false, false, true, false, false] rfl rfl (by kernel_rfl) (fun _ _ _ h => h) (Or.inl ⟨by rfl, ?_⟩) ?_ ?_
          rotate_left
          · intro w'
            (go_simp); (with_reducible rfl)
          rotate_left
          · simp only [pt_, pn_, sz_, ss_, i64_w, i32_w]; rfl
          refine pure_ (i := 8) (N := some 47) (v := ?_) (a' := ?_) #[true, true, true, true, true, true, true, true, true, false, true, false, false] rfl rfl (by kernel_rfl) (fun _ _ _ h => h) (Or.inl ⟨by rfl, ?_⟩) ?_ ?_
          rotate_left
          · intro w'
            (go_simp); (with_reducible rfl)
          rotate_left
          · simp only [pt_, pn_, sz_, ss_, i64_w, i32_w]; rfl
          refine pure_ (i := 9) (N := some 48) (v := ?_) (a' := ?_) #[true, true, true, true, true, true, true, true, true, true, true, false, false] rfl rfl (by kernel_rfl) (fun _ _ _ h => h) (Or.inl ⟨by rfl, ?_⟩) ?_ ?_
          rotate_left
          · intro w'
            (go_simp); (with_reducible rfl)
          rotate_left
          · simp only [pt_, pn_, sz_, ss_, i64_w, i32_w]; rfl
          have hz3 := hk3 _ _ hz
          have hF : Two w (w3.setRow V1.heap.size X3) g2 x2 g gx X3 X := hT3.fresh hz3 (by omega) (by omega) (by omega) X3
          have hF2 := setRow_heap _ _ _ X3 _ _ hz3
          refine one_ (i := 11) (N := none) #[true, true, true, true, true, true, true, true, true, true, true, true, false] rfl rfl (by kernel_rfl) (by decide) (fun K hK => ?_)
          rw [if_pos (by rfl)]
          refine wp_store_row 42 (.tmp 11) (.tmp 47) rfl V1.heap.size X3 rfl rfl 42 Try.zeroCells42 hz3 (by rw [hT3.sz]; exact info42) (by rw [hT3.sz]; exact zero42) hT3.one ?_
          refine hK.out _ _ ⟨hF.blk, hF.bel⟩ (fun _ => ?_)
          clear hK
          refine norm_ (a' := ?_) ?_ ?_
          rotate_left
          · show Act.put _ none _ = _
            simp only [pt_, pn_, sz_, ss_, i64_w, i32_w]
            rfl
          refine pure_ (i := 12) (N := some 12) (v := ?_) (a' := ?_) #[true, true, true, true, true, true, true, true, true, true, true, true, true] rfl rfl (by kernel_rfl) (fun _ _ _ h => h) (Or.inl ⟨by rfl, ?_⟩) ?_ ?_
          rotate_left
          · intro w'
            (go_simp); (with_reducible rfl)
          rotate_left
          · simp only [pt_, pn_, sz_, ss_, i64_w, i32_w]; rfl
          refine norm_ ?_ (hcont (V1.heap.size, X3) _ ⟨hF, hF2⟩)
          simp only [putAll, pt_, pn_, sz_, ss_, i64_w, i32_w] <;> rfl
      rintro ⟨ka, X3⟩ W4 ⟨hF, hK4⟩
      refine norm_ (a' := ?_) ?_ ?_
      rotate_left
      · simp only [putAll, pt_, pn_, sz_, ss_, i64_w, i32_w] <;> rfl
      first | (refine done_ (by kernel_rfl) ?_) | skip
      have HF := Aside0.mk hF
      have HK4 := Aside0.mk hK4
      clear hF hK4
      go_wp2_with (first
        | (refine wpList_load_row rfl 42 (.tmp 11) rfl ka rfl 42 X3 (0, 0) _ HK4.out Try.underlying42 rfl (by rw [HF.out.sz]; exact info42) ?_)
        | (refine wpList_store_row rfl 42 (.tmp 9) (.tmp 51) rfl x2 _ rfl rfl 42 X HF.out.blk (by rw [HF.out.sz]; exact info42) (by rw [HF.out.szY, HF.out.sz]) HF.out.one ?_)
        | fail)
      go_roundw
      case rel => exact ⟨k + 1, by simp, by omega, ⟨X3, HF.out.put⟩⟩
      case measure => simp [intOf]; omega
    · by_cases hkn : k < n
      · have hd2 : (60 : Int) ≤ (k : Int) := by omega
        clear hlt
        obtain ⟨X1, hT1⟩ := HT.out.symm
        have HT1 := Aside0.mk hT1
        clear hT1
        go_wp2_with (first
          | (refine wpList_step (fun K hK => ?_); rw [if_pos (by rfl)]; refine wp_load_row 42 (.tmp 6) rfl gx rfl 42 X1 (0, 0) _ HT1.out.blk Try.underlying42 rfl (by rw [HT1.out.sz]; exact info42) (hK _ _ ?_))
          | (go_at_call 21; refine (HT1.out.alike).mono ?_; rintro e w5 ⟨rfl, hb5⟩; obtain ⟨X5, hT5⟩ := (HT1.out.keep hb5).symm; have HT5 := Aside0.mk hT5; clear hb5 hT5 HT1)
          | (refine wpList_step (fun K hK => ?_); rw [if_pos (by rfl)]; refine wp_load_row 42 (.tmp 9) rfl x2 rfl 42 X5 (0, 0) _ HT5.out.blk Try.underlying42 rfl (by rw [HT5.out.sz]; exact info42) (hK _ _ ?_))
          | (go_at_call 21; refine (HT5.out.alike).mono ?_; rintro e w6 ⟨rfl, hb6⟩; have HT7 := Aside0.mk (HT5.out.keep hb6); clear hb6 HT5)
          | fail)
        have HI : Aside0 (FInv w g gx g2 x2 w6) := ⟨⟨HT7.out.symm⟩⟩
        clear HT7 HT
        go_loopw [13] (fun i wr => ∃ k : Nat, i = .int .i64 (k : Int) ∧ k ≤ n ∧ FInv w g gx g2 x2 wr) (fun i _ => n - (intOf i).toNat)
        case atStart => exact ⟨0, rfl, Nat.zero_le _, HI.out⟩
        case round =>
          obtain ⟨k, rfl, hk, HK⟩ := hrel
          clear HI
          obtain ⟨X, hT⟩ := HK.out
          have HT := Aside0.mk hT
          clear hT HK
          by_cases hlt : k < n ∧ k < 60
          · obtain ⟨hlt, hlt2⟩ := hlt
            have HKN := Aside0.mk hlt
            have hlt3 : (k : Int) < 60 := by omega
            obtain ⟨ad, rfl, _⟩ := deed_at HC.out k hlt
            obtain ⟨⟨D, I, N⟩, hde⟩ : ∃ y, l.getD k (0, 0, 0) = y := ⟨_, rfl⟩
            have HDE := Aside0.mk hde
            clear hde
            go_wp2_with fail
            refine start_ (n := 13) (S := (fun w' => w'.heap[gx]? = some (.cells X 42 (0, 0)) ∧ Below w.heap.size w w')) (ds := []) #[false, false, false, false, false, false, false, false, false, false, false, false, false] (by kernel_rfl) rfl rfl ⟨HT.out.blk, HT.out.bel.drew⟩ (fun hHeld => ?_)
            have HV1 := Aside0.mk ((Below.refl wr.heap.size wr).drew)
            have HS42 := Aside0.mk hHeld
            clear hHeld
            generalize wr.drew = V1 at HV1 HS42 ⊢
            have HT1 := Aside0.mk (HT.out.keep HV1.out)
            refine pure_ (i := 0) (N := some 73) (v := ?_) (a' := ?_) #[true, false, false, false, false, false, false, false, false, false, false, false, false] rfl rfl (by kernel_rfl) (fun _ _ _ h => h) (Or.inl ⟨by rfl, ?_⟩) ?_ ?_
            rotate_left
            · intro w'
              (go_simp); (with_reducible rfl)
            rotate_left
            · simp only [pt_, pn_, sz_, ss_, i64_w, i32_w]; rfl
            refine take_ (i := 1) (N := some 74) (v := .agg X) (a' := ?a1q9) #[true, true, false, false, false, false, false, false, false, false, false, false, false] rfl rfl (by kernel_rfl) (fun _ _ _ h => h) (Or.inl ⟨by rfl, fun w' hw' => ?y1q9⟩) HS42.out ?ha1q9 ?h1q9
            case y1q9 =>
              exact ld42 rfl rfl HT.out.sz hw'.1
            case ha1q9 => (simp only [pt_, pn_, sz_, ss_, i64_w, i32_w]; rfl)
            refine pure_ (i := 2) (N := some 75) (v := ?_) (a' := ?_) #[true, true, true, false, false, false, false, false, false, false, false, false, false] rfl rfl (by kernel_rfl) (fun _ _ _ h => h) (Or.inl ⟨by rfl, ?_⟩) ?_ ?_
            rotate_left
            · intro w'
              (go_simp); (with_reducible rfl)
            rotate_left
            · simp only [pt_, pn_, sz_, ss_, i64_w, i32_w]; rfl
            refine pure_ (i := 3) (N := some 76) (v := ?_) (a' := ?_) #[true, true, true, true, false, false, false, false, false, false, false, false, false] rfl rfl (by kernel_rfl) (fun _ _ _ h => h) (Or.inl ⟨by rfl, ?_⟩) ?_ ?_
            rotate_left
            · intro w'
              (go_simp); (with_reducible rfl)
            rotate_left
            · simp only [pt_, pn_, sz_, ss_, i64_w, i32_w]; rfl
            refine pure_ (i := 4) (N := some 77) (v := ?_) (a' := ?_) #[true, true, true, true, true, false, false, false, false, false, false, false, false] rfl rfl (by kernel_rfl) (fun _ _ _ h => h) (Or.inl ⟨by rfl, ?_⟩) ?_ ?_
            rotate_left
            · intro w'
              (go_simp); (with_reducible rfl)
            rotate_left
            · simp only [pt_, pn_, sz_, ss_, i64_w, i32_w]; rfl
            refine take_ (i := 5) (N := some 78) (v := .agg #[.int .i64 D, .int .i64 I, .int .i64 N]) (a' := ?a5q9) #[true, true, true, true, true, true, false, false, false, false, false, false, false] rfl rfl (by kernel_rfl) (fun _ _ _ h => h) (Or.inl ⟨by rfl, fun w' hw' => ?y5q9⟩) HS42.out ?ha5q9 ?h5q9
            case y5q9 =>
              (obtain ⟨ad2, e0, e1, e2, e3⟩ := deed_at (Kd.C_below HC.out hw'.2) k HKN.out; injection e0 with e0; subst e0; rw [HDE.out] at e1 e2 e3; exact ld46 rfl rfl e1 (by rw [Addr.add_add]; exact e2) (by rw [Addr.add_add]; exact e3))
            case ha5q9 => (simp only [pt_, pn_, sz_, ss_, i64_w, i32_w]; rfl)
            refine join_ (σ := Nat × Array Value) 0 #[true, true, true, true, true, true, true, true, true, true, true, true, true] (fun p => [(79, .tuple #[.agg p.2, .bool true]), (72, .tuple #[.agg p.2, .bool true]), (80, .agg p.2), (81, .bool true), (14, .pointer (some ⟨p.1, 0, none⟩)), (15, .bool true)]) (fun p W' => Two w W' g gx g2 x2 p.2 X ∧ W'.heap[p.1]? = some (.cells p.2 42 (0, 0))) ?contq9 (fun hcont => ?_)
            rotate_left
            · refine two_ (i := 6) (j := 10) (Ni := some 79) (Nj := some 14) #[true, true, true, true, true, true, true, false, false, false, false, false, false] #[true, true, true, true, true, true, false, false, false, false, true, false, false] rfl rfl rfl rfl (by kernel_rfl) (by decide) (by decide) (fun K hK => ?_) (fun K hK => ?_)
              · refine goes_ Try.func20 (by kernel_rfl) rfl #[.pointer (some ⟨g, 0, none⟩), .agg X, .agg #[.int .i64 D, .int .i64 I, .int .i64 N]] (by rfl) rfl rfl (by (try simp only [List.map_toArray, List.map_cons, List.map_nil]); first | done | rfl) ?_
                refine (HT1.out.step D I N).mono ?_
                rintro e w3 ⟨X3, rfl, hT3, hk3⟩
                refine ⟨_, rfl, ?_⟩
                refine hK.out _ _ ⟨hT3.blk, hT3.bel⟩ (fun _ => ?_)
                clear hK
                refine norm_ (a' := ?_) ?_ ?_
                rotate_left
                · show Act.put _ (some 79) _ = _
                  simp only [pt_, pn_, sz_, ss_, i64_w, i32_w]
                  rfl
                refine pure_ (i := 7) (N := some 72) (v := ?_) (a' := ?_) #[true, true, true, true, true, true, true, true, false, false, false, false, false] rfl rfl (by kernel_rfl) (fun _ _ _ h => h) (Or.inl ⟨by rfl, ?_⟩) ?_ ?_
                rotate_left
                · intro w'
                  (go_simp); (with_reducible rfl)
                rotate_left
                · simp only [pt_, pn_, sz_, ss_, i64_w, i32_w]; rfl
                refine pure_ (i := 8) (N := some 80) (v := ?_) (a' := ?_) #[true, true, true, true, true, true, true, true, true, false, false, false, false] rfl rfl (by kernel_rfl) (fun _ _ _ h => h) (Or.inl ⟨by rfl, ?_⟩) ?_ ?_
                rotate_left
                · intro w'
                  (go_simp); (with_reducible rfl)
                rotate_left
                · simp only [pt_, pn_, sz_, ss_, i64_w, i32_w]; rfl
                refine pure_ (i := 9) (N := some 81) (v := ?_) (a' := ?_) #[true, true, true, true, true, true, true, true, true, true, false, false, false] rfl rfl (by kernel_rfl) (fun _ _ _ h => h) (Or.inl ⟨by rfl, ?_⟩) ?_ ?_
                rotate_left
                · intro w'
                  (go_simp); (with_reducible rfl)
                rotate_left
                · simp only [pt_, pn_, sz_, ss_, i64_w, i32_w]; rfl
                have hz := heap_alloc_new w3 (.cells Try.zeroCells42 42)
                have hT4 := hT3.keep ((Below.refl _ w3).alloc (Nat.le_refl _) (.cells Try.zeroCells42 42))
                have hg3 := hT3.gx
                have hF : Two w ((w3.alloc (.cells Try.zeroCells42 42)).setRow w3.heap.size X3) g gx g2 x2 X3 X := hT4.fresh hz (by omega) (by omega) (by omega) X3
                have hF2 := setRow_heap _ _ _ X3 _ _ hz
                refine one_ (i := 10) (N := some 14) #[true, true, true, true, true, true, true, true, true, true, true, false, false] rfl rfl (by kernel_rfl) (by decide) (fun K hK => ?_)
                refine value_ (w1 := w3.alloc (.cells Try.zeroCells42 42)) (v := .pointer (some ⟨w3.heap.size, 0, none⟩)) (by rfl) rfl (by go_simp) ?_
                refine hK.out _ _ ⟨hT4.blk, hT4.bel⟩ (fun _ => ?_)
                clear hK
                refine norm_ (a' := ?_) ?_ ?_
                rotate_left
                · show Act.put _ (some 14) _ = _
                  simp only [pt_, pn_, sz_, ss_, i64_w, i32_w]
                  rfl
                refine one_ (i := 11) (N := none) #[true, true, true, true, true, true, true, true, true, true, true, true, false] rfl rfl (by kernel_rfl) (by decide) (fun K hK => ?_)
                rw [if_pos (by rfl)]
                refine wp_store_row 42 (.tmp 14) (.tmp 80) rfl w3.heap.size X3 rfl rfl 42 Try.zeroCells42 hz (by rw [hT3.sz]; exact info42) (by rw [hT3.sz]; exact zero42) hT3.one ?_
                refine hK.out _ _ ⟨hF.blk, hF.bel⟩ (fun _ => ?_)
                clear hK
                refine norm_ (a' := ?_) ?_ ?_
                rotate_left
                · show Act.put _ none _ = _
                  simp only [pt_, pn_, sz_, ss_, i64_w, i32_w]
                  rfl
                refine pure_ (i := 12) (N := some 15) (v := ?_) (a' := ?_) #[true, true, true, true, true, true, true, true, true, true, true, true, true] rfl rfl (by kernel_rfl) (fun _ _ _ h => h) (Or.inl ⟨by rfl, ?_⟩) ?_ ?_
                rotate_left
                · intro w'
                  (go_simp); (with_reducible rfl)
                rotate_left
                · simp only [pt_, pn_, sz_, ss_, i64_w, i32_w]; rfl
                refine norm_ ?_ (hcont (w3.heap.size, X3) _ ⟨hF, hF2⟩)
                simp only [putAll, pt_, pn_, sz_, ss_, i64_w, i32_w] <;> rfl
              · have hz := heap_alloc_new V1 (.cells Try.zeroCells42 42)
                have hT0 := HT1.out.keep ((Below.refl _ V1).alloc (Nat.le_refl _) (.cells Try.zeroCells42 42))
                have hg1 := HT1.out.gx
                refine value_ (w1 := V1.alloc (.cells Try.zeroCells42 42)) (v := .pointer (some ⟨V1.heap.size, 0, none⟩)) (by rfl) rfl (by go_simp) ?_
                refine hK.out _ _ ⟨hT0.blk, hT0.bel⟩ (fun _ => ?_)
                clear hK
                refine norm_ (a' := ?_) ?_ ?_
                rotate_left
                · show Act.put _ (some 14) _ = _
                  simp only [pt_, pn_, sz_, ss_, i64_w, i32_w]
                  rfl
                generalize V1.alloc (.cells Try.zeroCells42 42) = VA at hz hT0 ⊢
                refine one_ (i := 6) (N := some 79) #[true, true, true, true, true, true, true, false, false, false, true, false, false] rfl rfl (by kernel_rfl) (by decide) (fun K hK => ?_)
                refine goes_ Try.func20 (by kernel_rfl) rfl #[.pointer (some ⟨g, 0, none⟩), .agg X, .agg #[.int .i64 D, .int .i64 I, .int .i64 N]] (by rfl) rfl rfl (by (try simp only [List.map_toArray, List.map_cons, List.map_nil]); first | done | rfl) ?_
                refine (hT0.step D I N).mono ?_
                rintro e w3 ⟨X3, rfl, hT3, hk3⟩
                refine ⟨_, rfl, ?_⟩
                refine hK.out _ _ ⟨hT3.blk, hT3.bel⟩ (fun _ => ?_)
                clear hK
                refine norm_ (a' := ?_) ?_ ?_
                rotate_left
                · show Act.put _ (some 79) _ = _
                  simp only [pt_, pn_, sz_, ss_, i64_w, i32_w]
                  rfl
                refine pure_ (i := 7) (N := some 72) (v := ?_) (a' := ?_) #[true, true, true, true, true, true, true, true, false, false, true, false, false] rfl rfl (by kernel_rfl) (fun _ _ _ h => h) (Or.inl ⟨by rfl, ?_⟩) ?_ ?_
                rotate_left
                · intro w'
                  (go_simp); (with_reducible rfl)
                rotate_left
                · simp only [pt_, pn_, sz_, ss_, i64_w, i32_w]; rfl
                refine pure_ (i := 8) (N := some 80) (v := ?_) (a' := ?_) #[true, true, true, true, true, true, true, true, true, false, true, false, false] rfl rfl (by kernel_rfl) (fun _ _ _ h => h) (Or.inl ⟨by rfl, ?_⟩) ?_ ?_
                rotate_left
                · intro w'
                  (go_simp); (with_reducible rfl)
                rotate_left
                · simp only [pt_, pn_, sz_, ss_, i64_w, i32_w]; rfl
                refine pure_ (i := 9) (N := some 81) (v := ?_) (a' := ?_) #[true, true, true, true, true, true, true, true, true, true, true, false, false] rfl rfl (by kernel_rfl) (fun _ _ _ h => h) (Or.inl ⟨by rfl, ?_⟩) ?_ ?_
                rotate_left
                · intro w'
                  (go_simp); (with_reducible rfl)
                rotate_left
                · simp only [pt_, pn_, sz_, ss_, i64_w, i32_w]; rfl
                have hz3 := hk3 _ _ hz
                have hF : Two w (w3.setRow V1.heap.size X3) g gx g2 x2 X3 X := hT3.fresh hz3 (by omega) (by omega) (by omega) X3
                have hF2 := setRow_heap _ _ _ X3 _ _ hz3
                refine one_ (i := 11) (N := none) #[true, true, true, true, true, true, true, true, true, true, true, true, false] rfl rfl (by kernel_rfl) (by decide) (fun K hK => ?_)
                rw [if_pos (by rfl)]
                refine wp_store_row 42 (.tmp 14) (.tmp 80) rfl V1.heap.size X3 rfl rfl 42 Try.zeroCells42 hz3 (by rw [hT3.sz]; exact info42) (by rw [hT3.sz]; exact zero42) hT3.one ?_
                refine hK.out _ _ ⟨hF.blk, hF.bel⟩ (fun _ => ?_)
                clear hK
                refine norm_ (a' := ?_) ?_ ?_
                rotate_left
                · show Act.put _ none _ = _
                  simp only [pt_, pn_, sz_, ss_, i64_w, i32_w]
                  rfl
                refine pure_ (i := 12) (N := some 15) (v := ?_) (a' := ?_) #[true, true, true, true, true, true, true, true, true, true, true, true, true] rfl rfl (by kernel_rfl) (fun _ _ _ h => h) (Or.inl ⟨by rfl, ?_⟩) ?_ ?_
                rotate_left
                · intro w'
                  (go_simp); (with_reducible rfl)
                rotate_left
                · simp only [pt_, pn_, sz_, ss_, i64_w, i32_w]; rfl
                refine norm_ ?_ (hcont (V1.heap.size, X3) _ ⟨hF, hF2⟩)
                simp only [putAll, pt_, pn_, sz_, ss_, i64_w, i32_w] <;> rfl
            rintro ⟨ka, X3⟩ W4 ⟨hF, hK4⟩
            refine norm_ (a' := ?_) ?_ ?_
            rotate_left
            · simp only [putAll, pt_, pn_, sz_, ss_, i64_w, i32_w] <;> rfl
            first | (refine done_ (by kernel_rfl) ?_) | skip
            have HF := Aside0.mk hF
            have HK4 := Aside0.mk hK4
            clear hF hK4
            go_wp2_with (first
              | (refine wpList_load_row rfl 42 (.tmp 14) rfl ka rfl 42 X3 (0, 0) _ HK4.out Try.underlying42 rfl (by rw [HF.out.sz]; exact info42) ?_)
              | (refine wpList_store_row rfl 42 (.tmp 6) (.tmp 84) rfl gx _ rfl rfl 42 X HF.out.blk (by rw [HF.out.sz]; exact info42) (by rw [HF.out.szY, HF.out.sz]) HF.out.one ?_)
              | fail)
            go_roundw
            case rel => exact ⟨k + 1, by simp, by omega, ⟨X3, HF.out.put⟩⟩
            case measure => simp [intOf]; omega
          · by_cases hkn : k < n
            · have hd2 : (60 : Int) ≤ (k : Int) := by omega
              clear hlt
              go_wp2_with (first
                | (go_at_call 16; refine (HLV.out wr).mono ?_; rintro e w5 ⟨rfl, hb5⟩; obtain ⟨X6, hT6⟩ := (HT.out.keep hb5).symm; have HT6 := Aside0.mk hT6; clear hb5 hT6)
                | (refine wpList_step (fun K hK => ?_); rw [if_pos (by rfl)]; refine wp_load_row 42 (.tmp 9) rfl x2 rfl 42 X6 (0, 0) _ HT6.out.blk Try.underlying42 rfl (by rw [HT6.out.sz]; exact info42) (hK _ _ ?_))
                | (go_at_call 21; refine (HT6.out.alike).mono ?_; rintro e w7 ⟨rfl, hb7⟩; have HB9 := Aside0.mk (HT6.out.bel.trans (hb7.mono HT6.out.bel.size)); clear hb7)
                | fail)
              go_ret
              exact ⟨rfl, HB9.out⟩
            · obtain rfl : n = k := by omega
              clear hlt hkn
              go_wp2_with (first
                | (go_at_call 16; refine (HLV.out wr).mono ?_; rintro e w5 ⟨rfl, hb5⟩; obtain ⟨X6, hT6⟩ := (HT.out.keep hb5).symm; have HT6 := Aside0.mk hT6; clear hb5 hT6)
                | (refine wpList_step (fun K hK => ?_); rw [if_pos (by rfl)]; refine wp_load_row 42 (.tmp 9) rfl x2 rfl 42 X6 (0, 0) _ HT6.out.blk Try.underlying42 rfl (by rw [HT6.out.sz]; exact info42) (hK _ _ ?_))
                | (go_at_call 21; refine (HT6.out.alike).mono ?_; rintro e w7 ⟨rfl, hb7⟩; have HB9 := Aside0.mk (HT6.out.bel.trans (hb7.mono HT6.out.bel.size)); clear hb7)
                | fail)
              go_ret
              exact ⟨rfl, HB9.out⟩
      · obtain rfl : n = k := by omega
        clear hlt hkn
        obtain ⟨X1, hT1⟩ := HT.out.symm
        have HT1 := Aside0.mk hT1
        clear hT1
        go_wp2_with (first
          | (refine wpList_step (fun K hK => ?_); rw [if_pos (by rfl)]; refine wp_load_row 42 (.tmp 6) rfl gx rfl 42 X1 (0, 0) _ HT1.out.blk Try.underlying42 rfl (by rw [HT1.out.sz]; exact info42) (hK _ _ ?_))
          | (go_at_call 21; refine (HT1.out.alike).mono ?_; rintro e w5 ⟨rfl, hb5⟩; obtain ⟨X5, hT5⟩ := (HT1.out.keep hb5).symm; have HT5 := Aside0.mk hT5; clear hb5 hT5 HT1)
          | (refine wpList_step (fun K hK => ?_); rw [if_pos (by rfl)]; refine wp_load_row 42 (.tmp 9) rfl x2 rfl 42 X5 (0, 0) _ HT5.out.blk Try.underlying42 rfl (by rw [HT5.out.sz]; exact info42) (hK _ _ ?_))
          | (go_at_call 21; refine (HT5.out.alike).mono ?_; rintro e w6 ⟨rfl, hb6⟩; have HT7 := Aside0.mk (HT5.out.keep hb6); clear hb6 HT5)
          | fail)
        have HI : Aside0 (FInv w g gx g2 x2 w6) := ⟨⟨HT7.out.symm⟩⟩
        clear HT7 HT
        go_loopw [13] (fun i wr => ∃ k : Nat, i = .int .i64 (k : Int) ∧ k ≤ n ∧ FInv w g gx g2 x2 wr) (fun i _ => n - (intOf i).toNat)
        case atStart => exact ⟨0, rfl, Nat.zero_le _, HI.out⟩
        case round =>
          obtain ⟨k, rfl, hk, HK⟩ := hrel
          clear HI
          obtain ⟨X, hT⟩ := HK.out
          have HT := Aside0.mk hT
          clear hT HK
          by_cases hlt : k < n ∧ k < 60
          · obtain ⟨hlt, hlt2⟩ := hlt
            have HKN := Aside0.mk hlt
            have hlt3 : (k : Int) < 60 := by omega
            obtain ⟨ad, rfl, _⟩ := deed_at HC.out k hlt
            obtain ⟨⟨D, I, N⟩, hde⟩ : ∃ y, l.getD k (0, 0, 0) = y := ⟨_, rfl⟩
            have HDE := Aside0.mk hde
            clear hde
            go_wp2_with fail
            refine start_ (n := 13) (S := (fun w' => w'.heap[gx]? = some (.cells X 42 (0, 0)) ∧ Below w.heap.size w w')) (ds := []) #[false, false, false, false, false, false, false, false, false, false, false, false, false] (by kernel_rfl) rfl rfl ⟨HT.out.blk, HT.out.bel.drew⟩ (fun hHeld => ?_)
            have HV1 := Aside0.mk ((Below.refl wr.heap.size wr).drew)
            have HS42 := Aside0.mk hHeld
            clear hHeld
            generalize wr.drew = V1 at HV1 HS42 ⊢
            have HT1 := Aside0.mk (HT.out.keep HV1.out)
            refine pure_ (i := 0) (N := some 73) (v := ?_) (a' := ?_) #[true, false, false, false, false, false, false, false, false, false, false, false, false] rfl rfl (by kernel_rfl) (fun _ _ _ h => h) (Or.inl ⟨by rfl, ?_⟩) ?_ ?_
            rotate_left
            · intro w'
              (go_simp); (with_reducible rfl)
            rotate_left
            · simp only [pt_, pn_, sz_, ss_, i64_w, i32_w]; rfl
            refine take_ (i := 1) (N := some 74) (v := .agg X) (a' := ?a1q13) #[true, true, false, false, false, false, false, false, false, false, false, false, false] rfl rfl (by kernel_rfl) (fun _ _ _ h => h) (Or.inl ⟨by rfl, fun w' hw' => ?y1q13⟩) HS42.out ?ha1q13 ?h1q13
            case y1q13 =>
              exact ld42 rfl rfl HT.out.sz hw'.1
            case ha1q13 => (simp only [pt_, pn_, sz_, ss_, i64_w, i32_w]; rfl)
            refine pure_ (i := 2) (N := some 75) (v := ?_) (a' := ?_) #[true, true, true, false, false, false, false, false, false, false, false, false, false] rfl rfl (by kernel_rfl) (fun _ _ _ h => h) (Or.inl ⟨by rfl, ?_⟩) ?_ ?_
            rotate_left
            · intro w'
              (go_simp); (with_reducible rfl)
            rotate_left
            · simp only [pt_, pn_, sz_, ss_, i64_w, i32_w]; rfl
            refine pure_ (i := 3) (N := some 76) (v := ?_) (a' := ?_) #[true, true, true, true, false, false, false, false, false, false, false, false, false] rfl rfl (by kernel_rfl) (fun _ _ _ h => h) (Or.inl ⟨by rfl, ?_⟩) ?_ ?_
            rotate_left
            · intro w'
              (go_simp); (with_reducible rfl)
            rotate_left
            · simp only [pt_, pn_, sz_, ss_, i64_w, i32_w]; rfl
            refine pure_ (i := 4) (N := some 77) (v := ?_) (a' := ?_) #[true, true, true, true, true, false, false, false, false, false, false, false, false] rfl rfl (by kernel_rfl) (fun _ _ _ h => h) (Or.inl ⟨by rfl, ?_⟩) ?_ ?_
            rotate_left
            · intro w'
              (go_simp); (with_reducible rfl)
            rotate_left
            · simp only [pt_, pn_, sz_, ss_, i64_w, i32_w]; rfl
            refine take_ (i := 5) (N := some 78) (v := .agg #[.int .i64 D, .int .i64 I, .int .i64 N]) (a' := ?a5q13) #[true, true, true, true, true, true, false, false, false, false, false, false, false] rfl rfl (by kernel_rfl) (fun _ _ _ h => h) (Or.inl ⟨by rfl, fun w' hw' => ?y5q13⟩) HS42.out ?ha5q13 ?h5q13
            case y5q13 =>
              (obtain ⟨ad2, e0, e1, e2, e3⟩ := deed_at (Kd.C_below HC.out hw'.2) k HKN.out; injection e0 with e0; subst e0; rw [HDE.out] at e1 e2 e3; exact ld46 rfl rfl e1 (by rw [Addr.add_add]; exact e2) (by rw [Addr.add_add]; exact e3))
            case ha5q13 => (simp only [pt_, pn_, sz_, ss_, i64_w, i32_w]; rfl)
            refine join_ (σ := Nat × Array Value) 0 #[true, true, true, true, true, true, true, true, true, true, true, true, true] (fun p => [(79, .tuple #[.agg p.2, .bool true]), (72, .tuple #[.agg p.2, .bool true]), (80, .agg p.2), (81, .bool true), (14, .pointer (some ⟨p.1, 0, none⟩)), (15, .bool true)]) (fun p W' => Two w W' g gx g2 x2 p.2 X ∧ W'.heap[p.1]? = some (.cells p.2 42 (0, 0))) ?contq13 (fun hcont => ?_)
            rotate_left
            · refine two_ (i := 6) (j := 10) (Ni := some 79) (Nj := some 14) #[true, true, true, true, true, true, true, false, false, false, false, false, false] #[true, true, true, true, true, true, false, false, false, false, true, false, false] rfl rfl rfl rfl (by kernel_rfl) (by decide) (by decide) (fun K hK => ?_) (fun K hK => ?_)
              · refine goes_ Try.func20 (by kernel_rfl) rfl #[.pointer (some ⟨g, 0, none⟩), .agg X, .agg #[.int .i64 D, .int .i64 I, .int .i64 N]] (by rfl) rfl rfl (by (try simp only [List.map_toArray, List.map_cons, List.map_nil]); first | done | rfl) ?_
                refine (HT1.out.step D I N).mono ?_
                rintro e w3 ⟨X3, rfl, hT3, hk3⟩
                refine ⟨_, rfl, ?_⟩
                refine hK.out _ _ ⟨hT3.blk, hT3.bel⟩ (fun _ => ?_)
                clear hK
                refine norm_ (a' := ?_) ?_ ?_
                rotate_left
                · show Act.put _ (some 79) _ = _
                  simp only [pt_, pn_, sz_, ss_, i64_w, i32_w]
                  rfl
                refine pure_ (i := 7) (N := some 72) (v := ?_) (a' := ?_) #[true, true, true, true, true, true, true, true, false, false, false, false, false] rfl rfl (by kernel_rfl) (fun _ _ _ h => h) (Or.inl ⟨by rfl, ?_⟩) ?_ ?_
                rotate_left
                · intro w'
                  (go_simp); (with_reducible rfl)
                rotate_left
                · simp only [pt_, pn_, sz_, ss_, i64_w, i32_w]; rfl
                refine pure_ (i := 8) (N := some 80) (v := ?_) (a' := ?_) #[true, true, true, true, true, true, true, true, true, false, false, false, false] rfl rfl (by kernel_rfl) (fun _ _ _ h => h) (Or.inl ⟨by rfl, ?_⟩) ?_ ?_
                rotate_left
                · intro w'
                  (go_simp); (with_reducible rfl)
                rotate_left
                · simp only [pt_, pn_, sz_, ss_, i64_w, i32_w]; rfl
                refine pure_ (i := 9) (N := some 81) (v := ?_) (a' := ?_) #[true, true, true, true, true, true, true, true, true, true, false, false, false] rfl rfl (by kernel_rfl) (fun _ _ _ h => h) (Or.inl ⟨by rfl, ?_⟩) ?_ ?_
                rotate_left
                · intro w'
                  (go_simp); (with_reducible rfl)
                rotate_left
                · simp only [pt_, pn_, sz_, ss_, i64_w, i32_w]; rfl
                have hz := heap_alloc_new w3 (.cells Try.zeroCells42 42)
                have hT4 := hT3.keep ((Below.refl _ w3).alloc (Nat.le_refl _) (.cells Try.zeroCells42 42))
                have hg3 := hT3.gx
                have hF : Two w ((w3.alloc (.cells Try.zeroCells42 42)).setRow w3.heap.size X3) g gx g2 x2 X3 X := hT4.fresh hz (by omega) (by omega) (by omega) X3
                have hF2 := setRow_heap _ _ _ X3 _ _ hz
                refine one_ (i := 10) (N := some 14) #[true, true, true, true, true, true, true, true, true, true, true, false, false] rfl rfl (by kernel_rfl) (by decide) (fun K hK => ?_)
                refine value_ (w1 := w3.alloc (.cells Try.zeroCells42 42)) (v := .pointer (some ⟨w3.heap.size, 0, none⟩)) (by rfl) rfl (by go_simp) ?_
                refine hK.out _ _ ⟨hT4.blk, hT4.bel⟩ (fun _ => ?_)
                clear hK
                refine norm_ (a' := ?_) ?_ ?_
                rotate_left
                · show Act.put _ (some 14) _ = _
                  simp only [pt_, pn_, sz_, ss_, i64_w, i32_w]
                  rfl
                refine one_ (i := 11) (N := none) #[true, true, true, true, true, true, true, true, true, true, true, true, false] rfl rfl (by kernel_rfl) (by decide) (fun K hK => ?_)
                rw [if_pos (by rfl)]
                refine wp_store_row 42 (.tmp 14) (.tmp 80) rfl w3.heap.size X3 rfl rfl 42 Try.zeroCells42 hz (by rw [hT3.sz]; exact info42) (by rw [hT3.sz]; exact zero42) hT3.one ?_
                refine hK.out _ _ ⟨hF.blk, hF.bel⟩ (fun _ => ?_)
                clear hK
                refine norm_ (a' := ?_) ?_ ?_
                rotate_left
                · show Act.put _ none _ = _
                  simp only [pt_, pn_, sz_, ss_, i64_w, i32_w]
                  rfl
                refine pure_ (i := 12) (N := some 15) (v := ?_) (a' := ?_) #[true, true, true, true, true, true, true, true, true, true, true, true, true] rfl rfl (by kernel_rfl) (fun _ _ _ h => h) (Or.inl ⟨by rfl, ?_⟩) ?_ ?_
                rotate_left
                · intro w'
                  (go_simp); (with_reducible rfl)
                rotate_left
                · simp only [pt_, pn_, sz_, ss_, i64_w, i32_w]; rfl
                refine norm_ ?_ (hcont (w3.heap.size, X3) _ ⟨hF, hF2⟩)
                simp only [putAll, pt_, pn_, sz_, ss_, i64_w, i32_w] <;> rfl
              · have hz := heap_alloc_new V1 (.cells Try.zeroCells42 42)
                have hT0 := HT1.out.keep ((Below.refl _ V1).alloc (Nat.le_refl _) (.cells Try.zeroCells42 42))
                have hg1 := HT1.out.gx
                refine value_ (w1 := V1.alloc (.cells Try.zeroCells42 42)) (v := .pointer (some ⟨V1.heap.size, 0, none⟩)) (by rfl) rfl (by go_simp) ?_
                refine hK.out _ _ ⟨hT0.blk, hT0.bel⟩ (fun _ => ?_)
                clear hK
                refine norm_ (a' := ?_) ?_ ?_
                rotate_left
                · show Act.put _ (some 14) _ = _
                  simp only [pt_, pn_, sz_, ss_, i64_w, i32_w]
                  rfl
                generalize V1.alloc (.cells Try.zeroCells42 42) = VA at hz hT0 ⊢
                refine one_ (i := 6) (N := some 79) #[true, true, true, true, true, true, true, false, false, false, true, false, false] rfl rfl (by kernel_rfl) (by decide) (fun K hK => ?_)
                refine goes_ Try.func20 (by kernel_rfl) rfl #[.pointer (some ⟨g, 0, none⟩), .agg X, .agg #[.int .i64 D, .int .i64 I, .int .i64 N]] (by rfl) rfl rfl (by (try simp only [List.map_toArray, List.map_cons, List.map_nil]); first | done | rfl) ?_
                refine (hT0.step D I N).mono ?_
                rintro e w3 ⟨X3, rfl, hT3, hk3⟩
                refine ⟨_, rfl, ?_⟩
                refine hK.out _ _ ⟨hT3.blk, hT3.bel⟩ (fun _ => ?_)
                clear hK
                refine norm_ (a' := ?_) ?_ ?_
                rotate_left
                · show Act.put _ (some 79) _ = _
                  simp only [pt_, pn_, sz_, ss_, i64_w, i32_w]
                  rfl
                refine pure_ (i := 7) (N := some 72) (v := ?_) (a' := ?_) #[true, true, true, true, true, true, true, true, false, false, true, false, false] rfl rfl (by kernel_rfl) (fun _ _ _ h => h) (Or.inl ⟨by rfl, ?_⟩) ?_ ?_
                rotate_left
                · intro w'
                  (go_simp); (with_reducible rfl)
                rotate_left
                · simp only [pt_, pn_, sz_, ss_, i64_w, i32_w]; rfl
                refine pure_ (i := 8) (N := some 80) (v := ?_) (a' := ?_) #[true, true, true, true, true, true, true, true, true, false, true, false, false] rfl rfl (by kernel_rfl) (fun _ _ _ h => h) (Or.inl ⟨by rfl, ?_⟩) ?_ ?_
                rotate_left
                · intro w'
                  (go_simp); (with_reducible rfl)
                rotate_left
                · simp only [pt_, pn_, sz_, ss_, i64_w, i32_w]; rfl
                refine pure_ (i := 9) (N := some 81) (v := ?_) (a' := ?_) #[true, true, true, true, true, true, true, true, true, true, true, false, false] rfl rfl (by kernel_rfl) (fun _ _ _ h => h) (Or.inl ⟨by rfl, ?_⟩) ?_ ?_
                rotate_left
                · intro w'
                  (go_simp); (with_reducible rfl)
                rotate_left
                · simp only [pt_, pn_, sz_, ss_, i64_w, i32_w]; rfl
                have hz3 := hk3 _ _ hz
                have hF : Two w (w3.setRow V1.heap.size X3) g gx g2 x2 X3 X := hT3.fresh hz3 (by omega) (by omega) (by omega) X3
                have hF2 := setRow_heap _ _ _ X3 _ _ hz3
                refine one_ (i := 11) (N := none) #[true, true, true, true, true, true, true, true, true, true, true, true, false] rfl rfl (by kernel_rfl) (by decide) (fun K hK => ?_)
                rw [if_pos (by rfl)]
                refine wp_store_row 42 (.tmp 14) (.tmp 80) rfl V1.heap.size X3 rfl rfl 42 Try.zeroCells42 hz3 (by rw [hT3.sz]; exact info42) (by rw [hT3.sz]; exact zero42) hT3.one ?_
                refine hK.out _ _ ⟨hF.blk, hF.bel⟩ (fun _ => ?_)
                clear hK
                refine norm_ (a' := ?_) ?_ ?_
                rotate_left
                · show Act.put _ none _ = _
                  simp only [pt_, pn_, sz_, ss_, i64_w, i32_w]
                  rfl
                refine pure_ (i := 12) (N := some 15) (v := ?_) (a' := ?_) #[true, true, true, true, true, true, true, true, true, true, true, true, true] rfl rfl (by kernel_rfl) (fun _ _ _ h => h) (Or.inl ⟨by rfl, ?_⟩) ?_ ?_
                rotate_left
                · intro w'
                  (go_simp); (with_reducible rfl)
                rotate_left
                · simp only [pt_, pn_, sz_, ss_, i64_w, i32_w]; rfl
                refine norm_ ?_ (hcont (V1.heap.size, X3) _ ⟨hF, hF2⟩)
                simp only [putAll, pt_, pn_, sz_, ss_, i64_w, i32_w] <;> rfl
            rintro ⟨ka, X3⟩ W4 ⟨hF, hK4⟩
            refine norm_ (a' := ?_) ?_ ?_
            rotate_left
            · simp only [putAll, pt_, pn_, sz_, ss_, i64_w, i32_w] <;> rfl
            first | (refine done_ (by kernel_rfl) ?_) | skip
            have HF := Aside0.mk hF
            have HK4 := Aside0.mk hK4
            clear hF hK4
            go_wp2_with (first
              | (refine wpList_load_row rfl 42 (.tmp 14) rfl ka rfl 42 X3 (0, 0) _ HK4.out Try.underlying42 rfl (by rw [HF.out.sz]; exact info42) ?_)
              | (refine wpList_store_row rfl 42 (.tmp 6) (.tmp 84) rfl gx _ rfl rfl 42 X HF.out.blk (by rw [HF.out.sz]; exact info42) (by rw [HF.out.szY, HF.out.sz]) HF.out.one ?_)
              | fail)
            go_roundw
            case rel => exact ⟨k + 1, by simp, by omega, ⟨X3, HF.out.put⟩⟩
            case measure => simp [intOf]; omega
          · by_cases hkn : k < n
            · have hd2 : (60 : Int) ≤ (k : Int) := by omega
              clear hlt
              go_wp2_with (first
                | (go_at_call 16; refine (HLV.out wr).mono ?_; rintro e w5 ⟨rfl, hb5⟩; obtain ⟨X6, hT6⟩ := (HT.out.keep hb5).symm; have HT6 := Aside0.mk hT6; clear hb5 hT6)
                | (refine wpList_step (fun K hK => ?_); rw [if_pos (by rfl)]; refine wp_load_row 42 (.tmp 9) rfl x2 rfl 42 X6 (0, 0) _ HT6.out.blk Try.underlying42 rfl (by rw [HT6.out.sz]; exact info42) (hK _ _ ?_))
                | (go_at_call 21; refine (HT6.out.alike).mono ?_; rintro e w7 ⟨rfl, hb7⟩; have HB9 := Aside0.mk (HT6.out.bel.trans (hb7.mono HT6.out.bel.size)); clear hb7)
                | fail)
              go_ret
              exact ⟨rfl, HB9.out⟩
            · obtain rfl : n = k := by omega
              clear hlt hkn
              go_wp2_with (first
                | (go_at_call 16; refine (HLV.out wr).mono ?_; rintro e w5 ⟨rfl, hb5⟩; obtain ⟨X6, hT6⟩ := (HT.out.keep hb5).symm; have HT6 := Aside0.mk hT6; clear hb5 hT6)
                | (refine wpList_step (fun K hK => ?_); rw [if_pos (by rfl)]; refine wp_load_row 42 (.tmp 9) rfl x2 rfl 42 X6 (0, 0) _ HT6.out.blk Try.underlying42 rfl (by rw [HT6.out.sz]; exact info42) (hK _ _ ?_))
                | (go_at_call 21; refine (HT6.out.alike).mono ?_; rintro e w7 ⟨rfl, hb7⟩; have HB9 := Aside0.mk (HT6.out.bel.trans (hb7.mono HT6.out.bel.size)); clear hb7)
                | fail)
              go_ret
              exact ⟨rfl, HB9.out⟩
end Go.Proofs.Ytpfikmchimlneaa.Ar
