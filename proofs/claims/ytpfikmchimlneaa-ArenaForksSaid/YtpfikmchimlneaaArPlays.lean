/- The law ArenaPlays, walked: true. -/
import Derived.Test.YtpfikmchimlneaaArAlike
set_option linter.unusedVariables false
set_option linter.unusedSimpArgs false
namespace Go.Proofs.Ytpfikmchimlneaa.Ar
open Go.Proofs.YtpfikmchimlneaaW.Mine Go.RowKit Go.Proofs.YtpfikmchimlneaaW.PrintWords Go.Proofs.YtpfikmchimlneaaW.PrintWords.Kd Go.Proofs.YtpfikmchimlneaaW.PrintLast Go.Proofs.YtpfikmchimlneaaW.PrintMore Go.Proofs.YtpfikmchimlneaaW.Sl Go.Proofs.YtpfikmchimlneaaW.Ar
variable {B g : Nat} {w W V W' : World} {X X' : Array Value} {r r' : Rf} {v v' : Value} {s s' : St Int}
/-- what ArenaPlays' rounds keep -/
structure YInv (w : World) (gx : Nat) (wr : World) : Prop where mk ::
  out : ∃ s r X v, AI w.heap.size wr w.heap.size v s ∧ RV w.heap.size wr X r ∧ Sim s r ∧ wr.heap[gx]? = some (.cells X 42 (0, 0)) ∧ Below w.heap.size w wr
set_option maxHeartbeats 8000000 in
set_option maxRecDepth 100000 in
theorem plays_not (m : Int) (h1 : m < 1 ∨ 4096 < m) (A0 : Option Addr) (n c0 : Nat) (w : World) :
    Calls Try.prog 4 #[.int .i64 m, .slice A0 n c0] w fun e w' => e = .returned (.bool true) ∧ Below w.heap.size w w' := by
  have HN := Aside0.mk (new_not_int w m h1)
  have hlv := @live_calls
  have HLV := Aside0.mk hlv
  clear hlv
  rcases h1 with h1 | h1
  · go_enter Try.func4, Try.ntmps4
    go_wp2_with (first
      | (go_at_call 18; refine HN.out.mono ?_; rintro e w1 ⟨rfl, rfl⟩)
      | (go_at_call 16; refine (HLV.out w).mono ?_; rintro e w2 ⟨rfl, hb⟩; have HB := Aside0.mk hb; clear hb))
    go_ret
    exact ⟨rfl, HB.out⟩
  · have h2 : 1 ≤ m := by omega
    go_enter Try.func4, Try.ntmps4
    go_wp2_with (first
      | (go_at_call 18; refine HN.out.mono ?_; rintro e w1 ⟨rfl, rfl⟩)
      | (go_at_call 16; refine (HLV.out w).mono ?_; rintro e w2 ⟨rfl, hb⟩; have HB := Aside0.mk hb; clear hb))
    go_ret
    exact ⟨rfl, HB.out⟩
set_option maxHeartbeats 8000000 in
set_option maxRecDepth 100000 in
theorem plays_big (m : Int) (h1 : 60 < m) (h2 : m ≤ 4096) (A0 : Option Addr) (n c0 : Nat) (w : World) :
    Calls Try.prog 4 #[.int .i64 m, .slice A0 n c0] w fun e w' => e = .returned (.bool true) ∧ Below w.heap.size w w' := by
  have h3 : 1 ≤ m := by omega
  have HN := Aside0.mk (new_int w m h3 h2)
  have hA := at_new w w.heap.size (Nat.le_refl _) m
  have hL := left_int _ hA (Int.le_refl 0) (by show (0 : Int) ≤ m; omega) (by show m < 1000000; omega)
  rw [show (⟨[], 0, 0, m⟩ : St Int).most - (⟨[], 0, 0, m⟩ : St Int).used = m from Int.sub_zero m] at hL
  have HL := Aside0.mk hL
  have HB0 := Aside0.mk ((Below.refl w.heap.size w).alloc (Nat.le_refl _) (.cells #[.slice none 0 0, .int .i64 0, .int .i64 0, .int .i64 m] 110))
  have hlv := @live_calls
  have HLV := Aside0.mk hlv
  clear hlv hA hL
  go_enter Try.func4, Try.ntmps4
  go_wp2_with (first
    | (go_at_call 18; refine HN.out.mono ?_; rintro e w1 ⟨rfl, rfl⟩)
    | (go_at_call 19; refine HL.out.mono ?_; rintro e w1 ⟨rfl, hb1⟩; have HB1 := Aside0.mk (HB0.out.trans (hb1.mono HB0.out.size)); clear hb1)
    | (go_at_call 16; refine (HLV.out w1).mono ?_; rintro e w2 ⟨rfl, hb⟩; have HB := Aside0.mk (HB1.out.trans (hb.mono HB1.out.size)); clear hb))
  go_ret
  exact ⟨rfl, HB.out⟩
set_option maxHeartbeats 32000000 in
set_option maxRecDepth 100000 in
theorem plays_go (m : Int) (h3 : 1 ≤ m) (h60 : m ≤ 60) (A0 : Option Addr) (n c0 : Nat) (l : List (Int × Int × Int)) (w : World) (hC : kd46.C w A0 n l) (hn : n ≤ c0) :
    Calls Try.prog 4 #[.int .i64 m, .slice A0 n c0] w fun e w' => e = .returned (.bool true) ∧ Below w.heap.size w w' := by
  have h2 : m ≤ 4096 := by omega
  have HC := Aside0.mk hC
  have HN := Aside0.mk (new_int w m h3 h2)
  have hA := at_new w w.heap.size (Nat.le_refl _) m
  have hL := left_int _ hA (Int.le_refl 0) (by show (0 : Int) ≤ m; omega) (by show m < 1000000; omega)
  rw [show (⟨[], 0, 0, m⟩ : St Int).most - (⟨[], 0, 0, m⟩ : St Int).used = m from Int.sub_zero m] at hL
  have HL := Aside0.mk hL
  have HAN := Aside0.mk hA
  have HSM := Aside0.mk (sim0 m h3 h60)
  have HB0 := Aside0.mk ((Below.refl w.heap.size w).alloc (Nat.le_refl _) (.cells #[.slice none 0 0, .int .i64 0, .int .i64 0, .int .i64 m] 110))
  clear hA hL hC
  go_enter Try.func4, Try.ntmps4
  go_wp2_with (first
    | (go_at_call 18; refine HN.out.mono ?_; rintro e w1 ⟨rfl, rfl⟩)
    | (go_at_call 19; refine HL.out.mono ?_; rintro e w1 ⟨rfl, hb1⟩; have HA1 := Aside0.mk (HAN.out.keep hb1); have HB1 := Aside0.mk (HB0.out.trans (hb1.mono HB0.out.size)); have HN2 := Aside0.mk (heap_alloc_new w1 (.cells Try.zeroCells42 42)); clear hb1)
    | (refine wpList_store_row rfl 42 (.tmp 7) (.tmp 46) rfl w1.heap.size _ rfl rfl 42 Try.zeroCells42 HN2.out (by rw [X0_sz]; exact info42) (by rw [X0_sz]; exact zero42) (one_set one42 _ rfl) ?_)
    | fail)
  obtain ⟨gx, hgx⟩ : ∃ gx, w1.heap.size = gx := ⟨_, rfl⟩
  have HGX := Aside0.mk (show w.heap.size ≤ gx from hgx ▸ HB1.out.size)
  have hn9 := HN2.out
  rw [hgx] at hn9 ⊢
  have HI : YInv w gx ((w1.alloc (.cells Try.zeroCells42 42)).setRow gx (Try.zeroCells42.setIfInBounds 0 (.int .i64 m))) :=
    ⟨_, _, _, _, rowset (HA1.out.keep ((Below.refl _ w1).alloc (Nat.le_refl _) _)) hn9 _, rv0 _ _ m, HSM.out, setRow_heap _ _ _ _ _ _ hn9, (HB1.out.alloc HB1.out.size (.cells Try.zeroCells42 42)).grown (setRow_grown _ _ _) (by have := HB1.out.size; simp; omega) (fun k e => by injection e with e; have := HGX.out; omega)⟩
  have hlv := @live_calls
  have HLV := Aside0.mk hlv
  clear hlv hn9 hgx HN2 HA1 HB1 HSM HAN HL HN HB0
  go_loopw [8] (fun i wr => ∃ k : Nat, i = .int .i64 (k : Int) ∧ k ≤ n ∧ YInv w gx wr) (fun i _ => n - (intOf i).toNat)
  case atStart => exact ⟨0, rfl, Nat.zero_le _, HI⟩
  case round =>
    obtain ⟨k, rfl, hk, HK⟩ := hrel
    clear HI
    obtain ⟨s, r, X, v, hA, hR, hsim, hX, hB⟩ := HK.out
    have HA := Aside0.mk hA
    have HR := Aside0.mk hR
    have HSIM := Aside0.mk hsim
    have HX := Aside0.mk hX
    have HB := Aside0.mk hB
    clear hA hR hsim hX hB HK
    by_cases hlt : k < n ∧ k < 80
    · obtain ⟨hlt, hlt2⟩ := hlt
      have HKN := Aside0.mk hlt
      have hlt3 : (k : Int) < 80 := by omega
      obtain ⟨ad, rfl, _⟩ := deed_at HC.out k hlt
      obtain ⟨⟨D, I, N⟩, hde⟩ : ∃ y, l.getD k (0, 0, 0) = y := ⟨_, rfl⟩
      have HDE := Aside0.mk hde
      clear hde
      go_wp2_with fail
      refine start_ (n := 12) (S := (fun w' => w'.heap[gx]? = some (.cells X 42 (0, 0)) ∧ Below w.heap.size w w')) (ds := [10]) #[false, false, false, false, false, false, false, false, false, false, false, false] (by kernel_rfl) rfl rfl ⟨HX.out, HB.out.drew⟩ (fun hHeld => ?_)
      have HV1 := Aside0.mk ((Below.refl wr.heap.size wr).drew)
      have HS42 := Aside0.mk hHeld
      clear hHeld
      generalize wr.drew = V1 at HV1 HS42 ⊢
      refine pure_ (i := 0) (N := some 58) (v := ?_) (a' := ?_) #[true, false, false, false, false, false, false, false, false, false, false, false] rfl rfl (by kernel_rfl) (fun _ _ _ h => h) (Or.inl ⟨by rfl, ?_⟩) ?_ ?_
      rotate_left
      · intro w'
        (go_simp); (with_reducible rfl)
      rotate_left
      · simp only [pt_, pn_, sz_, ss_, i64_w, i32_w]; rfl
      refine take_ (i := 1) (N := some 59) (v := .agg X) (a' := ?a1q1) #[true, true, false, false, false, false, false, false, false, false, false, false] rfl rfl (by kernel_rfl) (fun _ _ _ h => h) (Or.inl ⟨by rfl, fun w' hw' => ?y1q1⟩) HS42.out ?ha1q1 ?h1q1
      case y1q1 =>
        exact ld42 rfl rfl HR.out.sz hw'.1
      case ha1q1 => (simp only [pt_, pn_, sz_, ss_, i64_w, i32_w]; rfl)
      refine pure_ (i := 2) (N := some 60) (v := ?_) (a' := ?_) #[true, true, true, false, false, false, false, false, false, false, false, false] rfl rfl (by kernel_rfl) (fun _ _ _ h => h) (Or.inl ⟨by rfl, ?_⟩) ?_ ?_
      rotate_left
      · intro w'
        (go_simp); (with_reducible rfl)
      rotate_left
      · simp only [pt_, pn_, sz_, ss_, i64_w, i32_w]; rfl
      refine pure_ (i := 3) (N := some 61) (v := ?_) (a' := ?_) #[true, true, true, true, false, false, false, false, false, false, false, false] rfl rfl (by kernel_rfl) (fun _ _ _ h => h) (Or.inl ⟨by rfl, ?_⟩) ?_ ?_
      rotate_left
      · intro w'
        (go_simp); (with_reducible rfl)
      rotate_left
      · simp only [pt_, pn_, sz_, ss_, i64_w, i32_w]; rfl
      refine pure_ (i := 4) (N := some 62) (v := ?_) (a' := ?_) #[true, true, true, true, true, false, false, false, false, false, false, false] rfl rfl (by kernel_rfl) (fun _ _ _ h => h) (Or.inl ⟨by rfl, ?_⟩) ?_ ?_
      rotate_left
      · intro w'
        (go_simp); (with_reducible rfl)
      rotate_left
      · simp only [pt_, pn_, sz_, ss_, i64_w, i32_w]; rfl
      refine take_ (i := 5) (N := some 63) (v := .agg #[.int .i64 D, .int .i64 I, .int .i64 N]) (a' := ?a5q1) #[true, true, true, true, true, true, false, false, false, false, false, false] rfl rfl (by kernel_rfl) (fun _ _ _ h => h) (Or.inl ⟨by rfl, fun w' hw' => ?y5q1⟩) HS42.out ?ha5q1 ?h5q1
      case y5q1 =>
        (obtain ⟨ad2, e0, e1, e2, e3⟩ := deed_at (Kd.C_below HC.out hw'.2) k HKN.out; injection e0 with e0; subst e0; rw [HDE.out] at e1 e2 e3; exact ld46 rfl rfl e1 (by rw [Addr.add_add]; exact e2) (by rw [Addr.add_add]; exact e3))
      case ha5q1 => (simp only [pt_, pn_, sz_, ss_, i64_w, i32_w]; rfl)
      refine one_ (i := 6) (N := some 64) #[true, true, true, true, true, true, true, false, false, false, false, false] rfl rfl (by kernel_rfl) (by decide) (fun K hK => ?_)
      refine goes_ Try.func20 (by kernel_rfl) rfl #[.pointer (some ⟨w.heap.size, 0, none⟩), .agg X, .agg #[.int .i64 D, .int .i64 I, .int .i64 N]] (by rfl) rfl rfl (by (try simp only [List.map_toArray, List.map_cons, List.map_nil]); first | done | rfl) ?_
      refine (step_any V1 (HA.out.keep HV1.out) (HR.out.keep HV1.out) (Nat.le_trans HB.out.size HV1.out.size) HSIM.out D I N).mono ?_
      rintro e w3 ⟨X3, s3, r3, rfl, hsim3, hmost3, hR3, hd3⟩
      refine ⟨_, rfl, ?_⟩
      refine hK.out _ _ (by obtain ⟨v3, hA3, hO3, hS3⟩ := hd3.out; exact ⟨blkOf (HA.out.keep HV1.out) hO3 HS42.out.1 (by decide) (by decide), HS42.out.2.trans ((HA.out.keep HV1.out).below hO3 (Nat.le_refl _) HS42.out.2.size)⟩) (fun hHeld2 => ?_)
      obtain ⟨v3, hA3, hO3, hS3⟩ := hd3.out
      have HX3 := Aside0.mk (blkOf (HA.out.keep HV1.out) hO3 HS42.out.1 (by decide) (by decide))
      have HB3 := Aside0.mk (HS42.out.2.trans ((HA.out.keep HV1.out).below hO3 (Nat.le_refl _) HS42.out.2.size))
      have HX4 := Aside0.mk (setRow_heap _ (gx) _ X3 _ _ HX3.out)
      have HA4 := Aside0.mk (rowset hA3 HX3.out X3)
      have HR4 := Aside0.mk (hR3.row HX3.out X3)
      have HR3 := Aside0.mk hR3
      have HSIM3 := Aside0.mk hsim3
      have HB4 := Aside0.mk (HB3.out.grown (setRow_grown _ (gx) X3) HB3.out.size (fun j e => by injection e with e; have := HGX.out; omega))
      clear hd3 hA3 hO3 hS3 hR3 hsim3 hmost3
      clear hK hHeld2
      refine norm_ (a' := ?_) ?_ ?_
      rotate_left
      · show Act.put _ (some 64) _ = _
        simp only [pt_, pn_, sz_, ss_, i64_w, i32_w]
        rfl
      refine pure_ (i := 7) (N := some 57) (v := ?_) (a' := ?_) #[true, true, true, true, true, true, true, true, false, false, false, false] rfl rfl (by kernel_rfl) (fun _ _ _ h => h) (Or.inl ⟨by rfl, ?_⟩) ?_ ?_
      rotate_left
      · intro w'
        (go_simp); (with_reducible rfl)
      rotate_left
      · simp only [pt_, pn_, sz_, ss_, i64_w, i32_w]; rfl
      refine pure_ (i := 8) (N := some 65) (v := ?_) (a' := ?_) #[true, true, true, true, true, true, true, true, true, false, false, false] rfl rfl (by kernel_rfl) (fun _ _ _ h => h) (Or.inl ⟨by rfl, ?_⟩) ?_ ?_
      rotate_left
      · intro w'
        (go_simp); (with_reducible rfl)
      rotate_left
      · simp only [pt_, pn_, sz_, ss_, i64_w, i32_w]; rfl
      refine pure_ (i := 9) (N := some 66) (v := ?_) (a' := ?_) #[true, true, true, true, true, true, true, true, true, true, false, false] rfl rfl (by kernel_rfl) (fun _ _ _ h => h) (Or.inl ⟨by rfl, ?_⟩) ?_ ?_
      rotate_left
      · intro w'
        (go_simp); (with_reducible rfl)
      rotate_left
      · simp only [pt_, pn_, sz_, ss_, i64_w, i32_w]; rfl
      refine last_ (i := 10) (N := none) #[true, true, true, true, true, true, true, true, true, true, true, false] rfl rfl (by kernel_rfl) (by decide) (fun K hK => ?_)
      rw [if_pos (by rfl)]
      refine wp_store_row 42 (.tmp 7) (.tmp 65) rfl (gx) X3 rfl rfl 42 X HX3.out (by rw [HR3.out.sz]; exact info42) (by rw [HR.out.sz, HR3.out.sz]) HR3.out.one ?_
      refine hK.out _ _ ?_
      clear hK
      refine norm_ (a' := ?_) ?_ ?_
      rotate_left
      · show Act.put _ none _ = _
        simp only [pt_, pn_, sz_, ss_, i64_w, i32_w]
        rfl
      refine pure_ (i := 11) (N := some 9) (v := ?_) (a' := ?_) #[true, true, true, true, true, true, true, true, true, true, true, true] rfl rfl (by kernel_rfl) (fun _ _ _ h => h) (Or.inl ⟨by rfl, ?_⟩) ?_ ?_
      rotate_left
      · intro w'
        (go_simp); (with_reducible rfl)
      rotate_left
      · simp only [pt_, pn_, sz_, ss_, i64_w, i32_w]; rfl
      first | (refine done_ (by kernel_rfl) ?_) | skip
      have HAL := Aside0.mk (alike_calls _ HA4.out HR4.out HSIM3.out)
      go_wp2_with (first
        | (refine wpList_step (fun K hK => ?_); rw [if_pos (by rfl)]; refine wp_load_row 42 (.tmp 7) rfl gx rfl 42 X3 (0, 0) _ HX4.out Try.underlying42 rfl (by rw [HR3.out.sz]; exact info42) (hK _ _ ?_))
        | (go_at_call 21; refine HAL.out.mono ?_; rintro e w5 ⟨rfl, hb5⟩; have HB5 := Aside0.mk hb5; clear hb5)
        | fail)
      go_roundw
      case rel => exact ⟨k + 1, by simp, by omega, ⟨s3, r3, X3, v3, HA4.out.keep HB5.out, HR4.out.keep HB5.out, HSIM3.out, blk_below HX4.out HB5.out, HB4.out.trans (HB5.out.mono HB4.out.size)⟩⟩
      case measure => simp [intOf]; omega
    · have hd : k = n ∨ 80 ≤ k := by omega
      rcases hd with rfl | hd
      · clear hlt
        go_wp2_with (first
          | (go_at_call 16; refine (HLV.out wr).mono ?_; rintro e w2 ⟨rfl, hb⟩; have HB9 := Aside0.mk (HB.out.trans (hb.mono HB.out.size)); clear hb)
          | fail)
        go_ret
        exact ⟨rfl, HB9.out⟩
      · by_cases hkn : k < n
        · have hd2 : (80 : Int) ≤ (k : Int) := by omega
          clear hlt
          go_wp2_with (first
            | (go_at_call 16; refine (HLV.out wr).mono ?_; rintro e w2 ⟨rfl, hb⟩; have HB9 := Aside0.mk (HB.out.trans (hb.mono HB.out.size)); clear hb)
            | fail)
          go_ret
          exact ⟨rfl, HB9.out⟩
        · obtain rfl : k = n := by omega
          clear hlt hkn hd
          go_wp2_with (first
            | (go_at_call 16; refine (HLV.out wr).mono ?_; rintro e w2 ⟨rfl, hb⟩; have HB9 := Aside0.mk (HB.out.trans (hb.mono HB.out.size)); clear hb)
            | fail)
          go_ret
          exact ⟨rfl, HB9.out⟩
theorem plays_calls (m : Int) (A0 : Option Addr) (n c0 : Nat) (l : List (Int × Int × Int)) (w : World) (hC : kd46.C w A0 n l) (hn : n ≤ c0) :
    Calls Try.prog 4 #[.int .i64 m, .slice A0 n c0] w fun e w' => e = .returned (.bool true) ∧ Below w.heap.size w w' := by
  by_cases h1 : m < 1 ∨ 4096 < m
  · exact plays_not m h1 A0 n c0 w
  · by_cases h2 : 60 < m
    · exact plays_big m h2 (by omega) A0 n c0 w
    · exact plays_go m (by omega) (by omega) A0 n c0 l w hC hn
end Go.Proofs.Ytpfikmchimlneaa.Ar
