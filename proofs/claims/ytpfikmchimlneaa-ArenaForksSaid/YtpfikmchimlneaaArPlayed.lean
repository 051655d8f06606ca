/- law08's played. -/
import Derived.Test.YtpfikmchimlneaaArP0
set_option linter.unusedVariables false
set_option linter.unusedSimpArgs false
namespace Go.Proofs.Ytpfikmchimlneaa.Ar
open Go.Proofs.YtpfikmchimlneaaW.Mine Go.RowKit Go.Proofs.YtpfikmchimlneaaW.PrintWords Go.Proofs.YtpfikmchimlneaaW.PrintWords.Kd Go.Proofs.YtpfikmchimlneaaW.PrintLast Go.Proofs.YtpfikmchimlneaaW.PrintMore Go.Proofs.YtpfikmchimlneaaW.Sl Go.Proofs.YtpfikmchimlneaaW.Ar
variable {B g : Nat} {w W V W' : World} {X X' : Array Value} {r r' : Rf} {v v' : Value} {s s' : St Int}
/-- what played's rounds keep -/
structure PInv (w : World) (wr : World) : Prop where mk ::
  out : ∃ s r X v, AI w.heap.size wr (w.heap.size + 1) v s ∧ RV w.heap.size wr X r ∧ Sim s r ∧ s.most = 12 ∧ wr.heap[w.heap.size + 2]? = some (.cells X 42 (0, 0)) ∧ wr.heap[w.heap.size]? = some (.cells Try.zeroCells42 42 (0, 0)) ∧ Below w.heap.size w wr
def PlayedPost (w : World) (e : Ending) (w' : World) : Prop :=
  ∃ g X s r v, e = .returned (.tuple #[.pointer (some ⟨g, 0, none⟩), .agg X, .bool true]) ∧ Sim s r ∧ s.most = 12 ∧ AI w.heap.size w' g v s ∧ RV w.heap.size w' X r ∧ Below w.heap.size w w'
set_option maxHeartbeats 16000000 in
set_option maxRecDepth 100000 in
theorem played_calls (A0 : Option Addr) (n c0 : Nat) (l : List (Int × Int × Int)) (w : World) (hC : kd46.C w A0 n l) (hn : n ≤ c0) :
    Calls Try.prog 22 #[.slice A0 n c0] w (PlayedPost w) := by
  have HC := Aside0.mk hC
  have HN := Aside0.mk hn
  have hb0 := (Below.refl w.heap.size w).alloc (Nat.le_refl _) (.cells Try.zeroCells42 42)
  have hz0 := heap_alloc_new w (.cells Try.zeroCells42 42)
  have hA0 := at_new (w.alloc (.cells Try.zeroCells42 42)) w.heap.size (by simp) 12
  rw [World.size_alloc] at hA0
  have hb1 := hb0.alloc (by simp) (.cells #[.slice none 0 0, .int .i64 0, .int .i64 0, .int .i64 12] 110)
  have hn2 := heap_alloc_new ((w.alloc (.cells Try.zeroCells42 42)).alloc (.cells #[.slice none 0 0, .int .i64 0, .int .i64 0, .int .i64 12] 110)) (.cells Try.zeroCells42 42)
  rw [World.size_alloc, World.size_alloc] at hn2
  have hb2 := hb1.alloc (by simp; omega) (.cells Try.zeroCells42 42)
  have hz2 := blk_alloc (blk_alloc hz0 (.cells #[.slice none 0 0, .int .i64 0, .int .i64 0, .int .i64 12] 110)) (.cells Try.zeroCells42 42)
  have hA2 := hA0.keep ((Below.refl _ _).alloc (Nat.le_refl _) (.cells Try.zeroCells42 42))
  have HN2 := Aside0.mk hn2
  have HI : PInv w ((((w.alloc (.cells Try.zeroCells42 42)).alloc (.cells #[.slice none 0 0, .int .i64 0, .int .i64 0, .int .i64 12] 110)).alloc (.cells Try.zeroCells42 42)).setRow (w.heap.size + 1 + 1) (Try.zeroCells42.setIfInBounds 0 (.int .i64 12))) :=
    ⟨_, _, _, _, rowset hA2 hn2 _, rv0 _ _ 12, sim0 12 (by decide) (by decide), rfl, setRow_heap _ _ _ _ _ _ hn2, blk_row hz2 (by omega) _, hb2.grown (setRow_grown _ _ _) (by simp; omega) (fun k e => by injection e with e; omega)⟩
  clear hC hn hb0 hz0 hA0 hb1 hn2 hb2 hz2 hA2
  go_enter Try.func22, Try.ntmps22
  go_wp2_with (first
    | (go_at_call 18; refine (new_int _ 12 (by decide) (by decide)).mono ?_; rintro e w1 ⟨rfl, rfl⟩)
    | (refine wpList_store_row rfl 42 (.tmp 7) (.tmp 13) rfl (w.heap.size + 1 + 1) _ rfl rfl 42 Try.zeroCells42 HN2.out (by rw [X0_sz]; exact info42) (by rw [X0_sz]; exact zero42) (one_set one42 _ rfl) ?_)
    | fail)
  clear HN2
  go_loopw [8] (fun i wr => ∃ k : Nat, i = .int .i64 (k : Int) ∧ k ≤ n ∧ PInv w wr) (fun i _ => n - (intOf i).toNat)
  case atStart => exact ⟨0, rfl, Nat.zero_le _, HI⟩
  case round =>
    obtain ⟨k, rfl, hk, HK⟩ := hrel
    clear HI
    obtain ⟨s, r, X, v, hA, hR, hsim, hmost, hX, hZ, hB⟩ := HK.out
    have HA := Aside0.mk hA
    have HR := Aside0.mk hR
    have HSIM := Aside0.mk hsim
    have HM := Aside0.mk hmost
    have HX := Aside0.mk hX
    have HZ := Aside0.mk hZ
    have HB := Aside0.mk hB
    clear hA hR hsim hmost hX hZ hB HK
    by_cases hlt : k < n ∧ k < 60
    · obtain ⟨hlt, hlt2⟩ := hlt
      have HKN := Aside0.mk hlt
      have hlt3 : (k : Int) < 60 := by omega
      obtain ⟨ad, rfl, _⟩ := deed_at HC.out k hlt
      obtain ⟨⟨D, I, N⟩, hde⟩ : ∃ y, l.getD k (0, 0, 0) = y := ⟨_, rfl⟩
      have HDE := Aside0.mk hde
      clear hde
      go_wp2_with fail
      refine start_ (n := 11) (S := (fun w' => w'.heap[w.heap.size + 2]? = some (.cells X 42 (0, 0)) ∧ Below w.heap.size w w')) (ds := [10]) #[false, false, false, false, false, false, false, false, false, false, false] (by kernel_rfl) rfl rfl ⟨HX.out, HB.out.drew⟩ (fun hHeld => ?_)
      have HV1 := Aside0.mk ((Below.refl wr.heap.size wr).drew)
      have HS42 := Aside0.mk hHeld
      clear hHeld
      generalize wr.drew = V1 at HV1 HS42 ⊢
      refine pure_ (i := 0) (N := some 32) (v := ?_) (a' := ?_) #[true, false, false, false, false, false, false, false, false, false, false] rfl rfl (by kernel_rfl) (fun _ _ _ h => h) (Or.inl ⟨by rfl, ?_⟩) ?_ ?_
      rotate_left
      · intro w'
        (go_simp); (with_reducible rfl)
      rotate_left
      · simp only [pt_, pn_, sz_, ss_, i64_w, i32_w]; rfl
      refine take_ (i := 1) (N := some 33) (v := .agg X) (a' := ?a1q1) #[true, true, false, false, false, false, false, false, false, false, false] rfl rfl (by kernel_rfl) (fun _ _ _ h => h) (Or.inl ⟨by rfl, fun w' hw' => ?y1q1⟩) HS42.out ?ha1q1 ?h1q1
      case y1q1 =>
        exact ld42 rfl rfl HR.out.sz hw'.1
      case ha1q1 => (simp only [pt_, pn_, sz_, ss_, i64_w, i32_w]; rfl)
      refine pure_ (i := 2) (N := some 34) (v := ?_) (a' := ?_) #[true, true, true, false, false, false, false, false, false, false, false] rfl rfl (by kernel_rfl) (fun _ _ _ h => h) (Or.inl ⟨by rfl, ?_⟩) ?_ ?_
      rotate_left
      · intro w'
        (go_simp); (with_reducible rfl)
      rotate_left
      · simp only [pt_, pn_, sz_, ss_, i64_w, i32_w]; rfl
      refine pure_ (i := 3) (N := some 35) (v := ?_) (a' := ?_) #[true, true, true, true, false, false, false, false, false, false, false] rfl rfl (by kernel_rfl) (fun _ _ _ h => h) (Or.inl ⟨by rfl, ?_⟩) ?_ ?_
      rotate_left
      · intro w'
        (go_simp); (with_reducible rfl)
      rotate_left
      · simp only [pt_, pn_, sz_, ss_, i64_w, i32_w]; rfl
      refine pure_ (i := 4) (N := some 36) (v := ?_) (a' := ?_) #[true, true, true, true, true, false, false, false, false, false, false] rfl rfl (by kernel_rfl) (fun _ _ _ h => h) (Or.inl ⟨by rfl, ?_⟩) ?_ ?_
      rotate_left
      · intro w'
        (go_simp); (with_reducible rfl)
      rotate_left
      · simp only [pt_, pn_, sz_, ss_, i64_w, i32_w]; rfl
      refine take_ (i := 5) (N := some 37) (v := .agg #[.int .i64 D, .int .i64 I, .int .i64 N]) (a' := ?a5q1) #[true, true, true, true, true, true, false, false, false, false, false] rfl rfl (by kernel_rfl) (fun _ _ _ h => h) (Or.inl ⟨by rfl, fun w' hw' => ?y5q1⟩) HS42.out ?ha5q1 ?h5q1
      case y5q1 =>
        (obtain ⟨ad2, e0, e1, e2, e3⟩ := deed_at (Kd.C_below HC.out hw'.2) k HKN.out; injection e0 with e0; subst e0; rw [HDE.out] at e1 e2 e3; exact ld46 rfl rfl e1 (by rw [Addr.add_add]; exact e2) (by rw [Addr.add_add]; exact e3))
      case ha5q1 => (simp only [pt_, pn_, sz_, ss_, i64_w, i32_w]; rfl)
      refine one_ (i := 6) (N := some 38) #[true, true, true, true, true, true, true, false, false, false, false] rfl rfl (by kernel_rfl) (by decide) (fun K hK => ?_)
      refine goes_ Try.func20 (by kernel_rfl) rfl #[.pointer (some ⟨w.heap.size + 1, 0, none⟩), .agg X, .agg #[.int .i64 D, .int .i64 I, .int .i64 N]] (by rfl) rfl rfl (by (try simp only [List.map_toArray, List.map_cons, List.map_nil]); first | done | rfl) ?_
      refine (step_any V1 (HA.out.keep HV1.out) (HR.out.keep HV1.out) (Nat.le_trans HB.out.size HV1.out.size) HSIM.out D I N).mono ?_
      rintro e w3 ⟨X3, s3, r3, rfl, hsim3, hmost3, hR3, hd3⟩
      refine ⟨_, rfl, ?_⟩
      refine hK.out _ _ (by obtain ⟨v3, hA3, hO3, hS3⟩ := hd3.out; exact ⟨blkOf (HA.out.keep HV1.out) hO3 HS42.out.1 (by decide) (by decide), HS42.out.2.trans ((HA.out.keep HV1.out).below hO3 (Nat.le_refl _) HS42.out.2.size)⟩) (fun hHeld2 => ?_)
      obtain ⟨v3, hA3, hO3, hS3⟩ := hd3.out
      have HX3 := Aside0.mk (blkOf (HA.out.keep HV1.out) hO3 HS42.out.1 (by decide) (by decide))
      have HZ3 := Aside0.mk (blkOf (HA.out.keep HV1.out) hO3 (blk_below HZ.out HV1.out) (by decide) (by decide))
      have HB3 := Aside0.mk (HS42.out.2.trans ((HA.out.keep HV1.out).below hO3 (Nat.le_refl _) HS42.out.2.size))
      have HA3 := Aside0.mk hA3
      have HR3 := Aside0.mk hR3
      have HSIM3 := Aside0.mk hsim3
      have HM3 := Aside0.mk (hmost3.trans HM.out)
      clear hd3 hA3 hO3 hS3 hR3 hsim3 hmost3
      clear hK hHeld2
      refine norm_ (a' := ?_) ?_ ?_
      rotate_left
      · show Act.put _ (some 38) _ = _
        simp only [pt_, pn_, sz_, ss_, i64_w, i32_w]
        rfl
      refine pure_ (i := 7) (N := some 31) (v := ?_) (a' := ?_) #[true, true, true, true, true, true, true, true, false, false, false] rfl rfl (by kernel_rfl) (fun _ _ _ h => h) (Or.inl ⟨by rfl, ?_⟩) ?_ ?_
      rotate_left
      · intro w'
        (go_simp); (with_reducible rfl)
      rotate_left
      · simp only [pt_, pn_, sz_, ss_, i64_w, i32_w]; rfl
      refine pure_ (i := 8) (N := some 39) (v := ?_) (a' := ?_) #[true, true, true, true, true, true, true, true, true, false, false] rfl rfl (by kernel_rfl) (fun _ _ _ h => h) (Or.inl ⟨by rfl, ?_⟩) ?_ ?_
      rotate_left
      · intro w'
        (go_simp); (with_reducible rfl)
      rotate_left
      · simp only [pt_, pn_, sz_, ss_, i64_w, i32_w]; rfl
      refine pure_ (i := 9) (N := some 40) (v := ?_) (a' := ?_) #[true, true, true, true, true, true, true, true, true, true, false] rfl rfl (by kernel_rfl) (fun _ _ _ h => h) (Or.inl ⟨by rfl, ?_⟩) ?_ ?_
      rotate_left
      · intro w'
        (go_simp); (with_reducible rfl)
      rotate_left
      · simp only [pt_, pn_, sz_, ss_, i64_w, i32_w]; rfl
      refine last_ (i := 10) (N := none) #[true, true, true, true, true, true, true, true, true, true, true] rfl rfl (by kernel_rfl) (by decide) (fun K hK => ?_)
      rw [if_pos (by rfl)]
      refine wp_store_row 42 (.tmp 7) (.tmp 39) rfl (w.heap.size + 2) X3 rfl rfl 42 X HX3.out (by rw [HR3.out.sz]; exact info42) (by rw [HR.out.sz, HR3.out.sz]) HR3.out.one ?_
      refine hK.out _ _ ?_
      clear hK
      refine norm_ (a' := ?_) ?_ ?_
      rotate_left
      · show Act.put _ none _ = _
        simp only [pt_, pn_, sz_, ss_, i64_w, i32_w]
        rfl
      first | (refine done_ (by kernel_rfl) ?_) | skip
      go_wp2_with fail
      go_roundw
      case rel => exact ⟨k + 1, by simp, by omega, ⟨s3, r3, X3, v3, rowset HA3.out HX3.out X3, HR3.out.row HX3.out X3, HSIM3.out, HM3.out, setRow_heap _ _ _ _ _ _ HX3.out, blk_row HZ3.out (by omega) X3, HB3.out.grown (setRow_grown _ _ X3) HB3.out.size (fun j e => by injection e with e; omega)⟩⟩
      case measure => simp [intOf]; omega
    · have hd : k = n ∨ 60 ≤ k := by omega
      have HXF := Aside0.mk HX.out
      rcases hd with rfl | hd
      · clear hlt
        go_wp2_with fail
        refine start_ (n := 5) (S := (fun w' => w'.heap[w.heap.size + 2]? = some (.cells X 42 (0, 0)))) (ds := []) #[false, false, false, false, false] (by kernel_rfl) rfl rfl HX.out (fun hHeld => ?_)
        have HV1 := Aside0.mk ((Below.refl wr.heap.size wr).drew)
        have HS42 := Aside0.mk hHeld
        clear hHeld
        generalize wr.drew = V1 at HV1 HS42 ⊢
        refine pure_ (i := 0) (N := some 41) (v := ?_) (a' := ?_) #[true, false, false, false, false] rfl rfl (by kernel_rfl) (fun _ _ _ h => h) (Or.inl ⟨by rfl, ?_⟩) ?_ ?_
        rotate_left
        · intro w'
          (go_simp); (with_reducible rfl)
        rotate_left
        · simp only [pt_, pn_, sz_, ss_, i64_w, i32_w]; rfl
        refine take_ (i := 1) (N := some 42) (v := .agg X) (a' := ?a1q2) #[true, true, false, false, false] rfl rfl (by kernel_rfl) (fun _ _ _ h => h) (Or.inl ⟨by rfl, fun w' hw' => ?y1q2⟩) HS42.out ?ha1q2 ?h1q2
        case y1q2 =>
          exact ld42 rfl rfl HR.out.sz hw'
        case ha1q2 => (simp only [pt_, pn_, sz_, ss_, i64_w, i32_w]; rfl)
        refine pure_ (i := 2) (N := some 2) (v := ?_) (a' := ?_) #[true, true, true, false, false] rfl rfl (by kernel_rfl) (fun _ _ _ h => h) (Or.inl ⟨by rfl, ?_⟩) ?_ ?_
        rotate_left
        · intro w'
          (go_simp); (with_reducible rfl)
        rotate_left
        · simp only [pt_, pn_, sz_, ss_, i64_w, i32_w]; rfl
        refine one_ (i := 3) (N := none) #[true, true, true, true, false] rfl rfl (by kernel_rfl) (by decide) (fun K hK => ?_)
        rw [if_pos (by rfl)]
        refine wp_store_row 42 (.tmp 3) (.tmp 42) rfl w.heap.size X rfl rfl 42 Try.zeroCells42 (blk_below HZ.out HV1.out) (by rw [HR.out.sz]; exact info42) (by rw [HR.out.sz]; exact zero42) HR.out.one ?_
        refine hK.out _ _ (blk_row HS42.out (by omega) X) (fun hHeld2 => ?_)
        clear hK hHeld2
        refine norm_ (a' := ?_) ?_ ?_
        rotate_left
        · show Act.put _ none _ = _
          simp only [pt_, pn_, sz_, ss_, i64_w, i32_w]
          rfl
        refine pure_ (i := 4) (N := some 4) (v := ?_) (a' := ?_) #[true, true, true, true, true] rfl rfl (by kernel_rfl) (fun _ _ _ h => h) (Or.inl ⟨by rfl, ?_⟩) ?_ ?_
        rotate_left
        · intro w'
          (go_simp); (with_reducible rfl)
        rotate_left
        · simp only [pt_, pn_, sz_, ss_, i64_w, i32_w]; rfl
        first | (refine done_ (by kernel_rfl) ?_) | skip
        go_wp2_with fail
        have hz1 := blk_below HZ.out HV1.out
        exact bodyPost_ret (results_42c rfl rfl rfl rfl HR.out.sz (setRow_heap _ _ _ X _ _ hz1)) rfl ⟨_, X, s, r, v, rfl, HSIM.out, HM.out, rowset (HA.out.keep HV1.out) hz1 X, (HR.out.keep HV1.out).row hz1 X, (HB.out.trans (HV1.out.mono HB.out.size)).grown (setRow_grown _ _ X) (Nat.le_trans HB.out.size HV1.out.size) (fun j e => by injection e with e; omega)⟩
      · by_cases hkn : k < n
        · have hd2 : (60 : Int) ≤ (k : Int) := by omega
          clear hlt
          go_wp2_with fail
          refine start_ (n := 5) (S := (fun w' => w'.heap[w.heap.size + 2]? = some (.cells X 42 (0, 0)))) (ds := []) #[false, false, false, false, false] (by kernel_rfl) rfl rfl HX.out (fun hHeld => ?_)
          have HV1 := Aside0.mk ((Below.refl wr.heap.size wr).drew)
          have HS42 := Aside0.mk hHeld
          clear hHeld
          generalize wr.drew = V1 at HV1 HS42 ⊢
          refine pure_ (i := 0) (N := some 41) (v := ?_) (a' := ?_) #[true, false, false, false, false] rfl rfl (by kernel_rfl) (fun _ _ _ h => h) (Or.inl ⟨by rfl, ?_⟩) ?_ ?_
          rotate_left
          · intro w'
            (go_simp); (with_reducible rfl)
          rotate_left
          · simp only [pt_, pn_, sz_, ss_, i64_w, i32_w]; rfl
          refine take_ (i := 1) (N := some 42) (v := .agg X) (a' := ?a1q3) #[true, true, false, false, false] rfl rfl (by kernel_rfl) (fun _ _ _ h => h) (Or.inl ⟨by rfl, fun w' hw' => ?y1q3⟩) HS42.out ?ha1q3 ?h1q3
          case y1q3 =>
            exact ld42 rfl rfl HR.out.sz hw'
          case ha1q3 => (simp only [pt_, pn_, sz_, ss_, i64_w, i32_w]; rfl)
          refine pure_ (i := 2) (N := some 2) (v := ?_) (a' := ?_) #[true, true, true, false, false] rfl rfl (by kernel_rfl) (fun _ _ _ h => h) (Or.inl ⟨by rfl, ?_⟩) ?_ ?_
          rotate_left
          · intro w'
            (go_simp); (with_reducible rfl)
          rotate_left
          · simp only [pt_, pn_, sz_, ss_, i64_w, i32_w]; rfl
          refine one_ (i := 3) (N := none) #[true, true, true, true, false] rfl rfl (by kernel_rfl) (by decide) (fun K hK => ?_)
          rw [if_pos (by rfl)]
          refine wp_store_row 42 (.tmp 3) (.tmp 42) rfl w.heap.size X rfl rfl 42 Try.zeroCells42 (blk_below HZ.out HV1.out) (by rw [HR.out.sz]; exact info42) (by rw [HR.out.sz]; exact zero42) HR.out.one ?_
          refine hK.out _ _ (blk_row HS42.out (by omega) X) (fun hHeld2 => ?_)
          clear hK hHeld2
          refine norm_ (a' := ?_) ?_ ?_
          rotate_left
          · show Act.put _ none _ = _
            simp only [pt_, pn_, sz_, ss_, i64_w, i32_w]
            rfl
          refine pure_ (i := 4) (N := some 4) (v := ?_) (a' := ?_) #[true, true, true, true, true] rfl rfl (by kernel_rfl) (fun _ _ _ h => h) (Or.inl ⟨by rfl, ?_⟩) ?_ ?_
          rotate_left
          · intro w'
            (go_simp); (with_reducible rfl)
          rotate_left
          · simp only [pt_, pn_, sz_, ss_, i64_w, i32_w]; rfl
          first | (refine done_ (by kernel_rfl) ?_) | skip
          first | (refine done_ (by kernel_rfl) ?_) | skip
          go_wp2_with fail
          have hz1 := blk_below HZ.out HV1.out
          exact bodyPost_ret (results_42c rfl rfl rfl rfl HR.out.sz (setRow_heap _ _ _ X _ _ hz1)) rfl ⟨_, X, s, r, v, rfl, HSIM.out, HM.out, rowset (HA.out.keep HV1.out) hz1 X, (HR.out.keep HV1.out).row hz1 X, (HB.out.trans (HV1.out.mono HB.out.size)).grown (setRow_grown _ _ X) (Nat.le_trans HB.out.size HV1.out.size) (fun j e => by injection e with e; omega)⟩
        · obtain rfl : k = n := by omega
          clear hlt hkn hd
          go_wp2_with fail
          refine start_ (n := 5) (S := (fun w' => w'.heap[w.heap.size + 2]? = some (.cells X 42 (0, 0)))) (ds := []) #[false, false, false, false, false] (by kernel_rfl) rfl rfl HX.out (fun hHeld => ?_)
          have HV1 := Aside0.mk ((Below.refl wr.heap.size wr).drew)
          have HS42 := Aside0.mk hHeld
          clear hHeld
          generalize wr.drew = V1 at HV1 HS42 ⊢
          refine pure_ (i := 0) (N := some 41) (v := ?_) (a' := ?_) #[true, false, false, false, false] rfl rfl (by kernel_rfl) (fun _ _ _ h => h) (Or.inl ⟨by rfl, ?_⟩) ?_ ?_
          rotate_left
          · intro w'
            (go_simp); (with_reducible rfl)
          rotate_left
          · simp only [pt_, pn_, sz_, ss_, i64_w, i32_w]; rfl
          refine take_ (i := 1) (N := some 42) (v := .agg X) (a' := ?a1q4) #[true, true, false, false, false] rfl rfl (by kernel_rfl) (fun _ _ _ h => h) (Or.inl ⟨by rfl, fun w' hw' => ?y1q4⟩) HS42.out ?ha1q4 ?h1q4
          case y1q4 =>
            exact ld42 rfl rfl HR.out.sz hw'
          case ha1q4 => (simp only [pt_, pn_, sz_, ss_, i64_w, i32_w]; rfl)
          refine pure_ (i := 2) (N := some 2) (v := ?_) (a' := ?_) #[true, true, true, false, false] rfl rfl (by kernel_rfl) (fun _ _ _ h => h) (Or.inl ⟨by rfl, ?_⟩) ?_ ?_
          rotate_left
          · intro w'
            (go_simp); (with_reducible rfl)
          rotate_left
          · simp only [pt_, pn_, sz_, ss_, i64_w, i32_w]; rfl
          refine one_ (i := 3) (N := none) #[true, true, true, true, false] rfl rfl (by kernel_rfl) (by decide) (fun K hK => ?_)
          rw [if_pos (by rfl)]
          refine wp_store_row 42 (.tmp 3) (.tmp 42) rfl w.heap.size X rfl rfl 42 Try.zeroCells42 (blk_below HZ.out HV1.out) (by rw [HR.out.sz]; exact info42) (by rw [HR.out.sz]; exact zero42) HR.out.one ?_
          refine hK.out _ _ (blk_row HS42.out (by omega) X) (fun hHeld2 => ?_)
          clear hK hHeld2
          refine norm_ (a' := ?_) ?_ ?_
          rotate_left
          · show Act.put _ none _ = _
            simp only [pt_, pn_, sz_, ss_, i64_w, i32_w]
            rfl
          refine pure_ (i := 4) (N := some 4) (v := ?_) (a' := ?_) #[true, true, true, true, true] rfl rfl (by kernel_rfl) (fun _ _ _ h => h) (Or.inl ⟨by rfl, ?_⟩) ?_ ?_
          rotate_left
          · intro w'
            (go_simp); (with_reducible rfl)
          rotate_left
          · simp only [pt_, pn_, sz_, ss_, i64_w, i32_w]; rfl
          first | (refine done_ (by kernel_rfl) ?_) | skip
          first | (refine done_ (by kernel_rfl) ?_) | skip
          first | (refine done_ (by kernel_rfl) ?_) | skip
          go_wp2_with fail
          have hz1 := blk_below HZ.out HV1.out
          exact bodyPost_ret (results_42c rfl rfl rfl rfl HR.out.sz (setRow_heap _ _ _ X _ _ hz1)) rfl ⟨_, X, s, r, v, rfl, HSIM.out, HM.out, rowset (HA.out.keep HV1.out) hz1 X, (HR.out.keep HV1.out).row hz1 X, (HB.out.trans (HV1.out.mono HB.out.size)).grown (setRow_grown _ _ X) (Nat.le_trans HB.out.size HV1.out.size) (fun j e => by injection e with e; omega)⟩
end Go.Proofs.Ytpfikmchimlneaa.Ar
