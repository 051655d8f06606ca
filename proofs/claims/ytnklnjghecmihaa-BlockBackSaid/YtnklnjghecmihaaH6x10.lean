-- written by a program of this session (wip/myprint.py), over the kit's printer and the session's own contracts
import Derived.Test.YtnklnjghecmihaaH6x0
import Derived.Test.YtnklnjghecmihaaH6P0
import Derived.Test.YtnklnjghecmihaaH6x6
import Derived.Test.YtnklnjghecmihaaH6P1
namespace Go.Proofs.Ytnklnjghecmihaa.H6
open Go.RowKit Go.Proofs.YtnklnjghecmihaaW.PrintWords Go.Proofs.YtnklnjghecmihaaW.PrintLast Go.Proofs.YtnklnjghecmihaaW.PrintMore Go.Proofs.YtnklnjghecmihaaW.Mine
attribute [local go_sem] max2_int min2_int max_two min_two max_three min_three max_four min_four max2_str min2_str binOp_gtr_str binOp_leq_str binOp_geq_str   -- for this text's walks alone
set_option linter.unusedVariables false
set_option linter.unusedSimpArgs false

/-! ### block_reader_entry: function 74 -/
mutual
def block_reader_entry.j0 : Nat → ByteArray → Bool → Int → ByteArray → Option (ByteArray × ByteArray × ByteArray)
  | 0, _, _, _, _ => none
  | k + 1, x1, x2, x7, x1000 => if 0 ≤ x7 then (if x7 ≤ (x1.size : Int) then ((block_reader_text.f k x1000 256).bind fun bt116 => (if (x1.extract 0 (x7 : Int).toNat).size + bt116.1.size ≤ 9223372036854775807 then (if x2 = true then ((key_Shared.f k x1 ((x1.extract 0 (x7 : Int).toNat) ++ bt116.1)).bind fun t118 => (block_reader_entry.j1 k ((x1.extract 0 (x7 : Int).toNat) ++ bt116.1) (t118 != x7) bt116.2)) else (if ((Op.bytesLess x1.toList (((x1.extract 0 (x7 : Int).toNat) ++ bt116.1).toList)) = true) then ((key_Shared.f k x1 ((x1.extract 0 (x7 : Int).toNat) ++ bt116.1)).bind fun t119 => (block_reader_entry.j1 k ((x1.extract 0 (x7 : Int).toNat) ++ bt116.1) (t119 != x7) bt116.2)) else (block_reader_entry.j1 k ((x1.extract 0 (x7 : Int).toNat) ++ bt116.1) true bt116.2))) else (none))) else (none)) else (none)
def block_reader_entry.j1 : Nat → ByteArray → Bool → ByteArray → Option (ByteArray × ByteArray × ByteArray)
  | 0, _, _, _ => none
  | k + 1, x8, x35, x1000 => if x35 = true then ((block_must.f 16).bind fun _ => (block_reader_entry.j2 k x8 x1000)) else (block_reader_entry.j2 k x8 x1000)
def block_reader_entry.j2 : Nat → ByteArray → ByteArray → Option (ByteArray × ByteArray × ByteArray)
  | 0, _, _ => none
  | k + 1, x8, x1000 => (block_reader_text.f k x1000 4096).bind fun bt120 => (some (x8, bt120.1, bt120.2))
end
def block_reader_entry.f (k : Nat) (s0_0 : ByteArray) (a1 : ByteArray) (a2 : Bool) : Option (ByteArray × ByteArray × ByteArray) := (block_reader_num.f k s0_0).bind fun bt114 => (if bt114.1 > (a1.size : Int) then ((block_must.f 3).bind fun _ => (block_reader_entry.j0 k a1 a2 bt114.1 bt114.2)) else (block_reader_entry.j0 k a1 a2 bt114.1 bt114.2))
theorem block_reader_entry.mono_l : ∀ k, (∀ y0 y1 y2 y3, LeO (block_reader_entry.j0 k y0 y1 y2 y3) (block_reader_entry.j0 (k + 1) y0 y1 y2 y3)) ∧ (∀ y0 y1 y2, LeO (block_reader_entry.j1 k y0 y1 y2) (block_reader_entry.j1 (k + 1) y0 y1 y2)) ∧ (∀ y0 y1, LeO (block_reader_entry.j2 k y0 y1) (block_reader_entry.j2 (k + 1) y0 y1))
  | 0 => ⟨fun _ _ _ _ r h => by simp [block_reader_entry.j0] at h, fun _ _ _ r h => by simp [block_reader_entry.j1] at h, fun _ _ r h => by simp [block_reader_entry.j2] at h⟩
  | k + 1 => by
    obtain ⟨ih0, ih1, ih2⟩ := block_reader_entry.mono_l k
    refine ⟨?_, ?_, ?_⟩
    · intro y0 y1 y2 y3
      unfold block_reader_entry.j0
      repeat' first
      | (with_reducible exact ih0 _ _ _ _)
      | (with_reducible exact ih1 _ _ _)
      | (with_reducible exact ih2 _ _)
      | (with_reducible exact block_reader_num.mono _ _)
      | (with_reducible exact block_reader_text.mono _ _ _)
      | (with_reducible exact key_Shared.mono _ _ _)
      | (with_reducible exact LeO.refl _)
      | (with_reducible exact LeO.none _)
      | (with_reducible refine LeO.ite ?_ ?_)
      | (with_reducible refine LeO.bind ?_ (fun _ => ?_))
      | exact ih0 _ _ _ _
      | exact ih1 _ _ _
      | exact ih2 _ _
      | exact block_reader_num.mono _ _
      | exact block_reader_text.mono _ _ _
      | exact key_Shared.mono _ _ _
      | exact LeO.none _
      | refine LeO.ite ?_ ?_
      | refine LeO.bind ?_ (fun _ => ?_)
    · intro y0 y1 y2
      unfold block_reader_entry.j1
      repeat' first
      | (with_reducible exact ih0 _ _ _ _)
      | (with_reducible exact ih1 _ _ _)
      | (with_reducible exact ih2 _ _)
      | (with_reducible exact block_reader_num.mono _ _)
      | (with_reducible exact block_reader_text.mono _ _ _)
      | (with_reducible exact key_Shared.mono _ _ _)
      | (with_reducible exact LeO.refl _)
      | (with_reducible exact LeO.none _)
      | (with_reducible refine LeO.ite ?_ ?_)
      | (with_reducible refine LeO.bind ?_ (fun _ => ?_))
      | exact ih0 _ _ _ _
      | exact ih1 _ _ _
      | exact ih2 _ _
      | exact block_reader_num.mono _ _
      | exact block_reader_text.mono _ _ _
      | exact key_Shared.mono _ _ _
      | exact LeO.none _
      | refine LeO.ite ?_ ?_
      | refine LeO.bind ?_ (fun _ => ?_)
    · intro y0 y1
      unfold block_reader_entry.j2
      repeat' first
      | (with_reducible exact ih0 _ _ _ _)
      | (with_reducible exact ih1 _ _ _)
      | (with_reducible exact ih2 _ _)
      | (with_reducible exact block_reader_num.mono _ _)
      | (with_reducible exact block_reader_text.mono _ _ _)
      | (with_reducible exact key_Shared.mono _ _ _)
      | (with_reducible exact LeO.refl _)
      | (with_reducible exact LeO.none _)
      | (with_reducible refine LeO.ite ?_ ?_)
      | (with_reducible refine LeO.bind ?_ (fun _ => ?_))
      | exact ih0 _ _ _ _
      | exact ih1 _ _ _
      | exact ih2 _ _
      | exact block_reader_num.mono _ _
      | exact block_reader_text.mono _ _ _
      | exact key_Shared.mono _ _ _
      | exact LeO.none _
      | refine LeO.ite ?_ ?_
      | refine LeO.bind ?_ (fun _ => ?_)
theorem block_reader_entry.mono : ∀ a0 a1 a2 k, LeO (block_reader_entry.f k a0 a1 a2) (block_reader_entry.f (k + 1) a0 a1 a2) := by
  (intro a0 a1 a2 k); (obtain ⟨ih0, ih1, ih2⟩ := block_reader_entry.mono_l k); (unfold block_reader_entry.f)
  repeat' first
      | (with_reducible exact ih0 _ _ _ _)
      | (with_reducible exact ih1 _ _ _)
      | (with_reducible exact ih2 _ _)
      | (with_reducible exact block_reader_num.mono _ _)
      | (with_reducible exact block_reader_text.mono _ _ _)
      | (with_reducible exact key_Shared.mono _ _ _)
      | (with_reducible exact LeO.refl _)
      | (with_reducible exact LeO.none _)
      | (with_reducible refine LeO.ite ?_ ?_)
      | (with_reducible refine LeO.bind ?_ (fun _ => ?_))
      | exact ih0 _ _ _ _
      | exact ih1 _ _ _
      | exact ih2 _ _
      | exact block_reader_num.mono _ _
      | exact block_reader_text.mono _ _ _
      | exact key_Shared.mono _ _ _
      | exact LeO.none _
      | refine LeO.ite ?_ ?_
      | refine LeO.bind ?_ (fun _ => ?_)
set_option maxHeartbeats 8000000 in
set_option maxRecDepth 100000 in
theorem block_reader_entry.calls (k : Nat) (g : Nat) (s0_0 : ByteArray) (a1 : ByteArray) (a2 : Bool) (r1 : ByteArray) (r2 : ByteArray) (r3 : ByteArray) (w0 w : World) (hI : IsS104 w0 w g s0_0) (hB : Below w0.heap.size w0 w) (h : block_reader_entry.f k s0_0 a1 a2 = some (r1, r2, r3)) :
    Calls Try.prog 74 #[.pointer (some ⟨g, 0, none⟩), .string a1, .bool a2] w fun e w' => e = .returned (.agg #[.string r1, .string r2]) ∧ IsS104 w0 w' g r3 ∧ Below w0.heap.size w0 w' ∧ KeepBut w w' g none := by
  (have hu25 := Try.underlying25); (have HI0 := Aside0.mk hI); (have HK := Aside0.mk (KeepBut.refl w g none)); (have HL := Aside0.mk hB.size); (clear hI); (have HW0 := Aside0.mk hB.size); (have HB := Aside0.mk hB); (clear hB); (have H : ((block_reader_num.f k s0_0).bind fun bt114 => (if bt114.1 > (a1.size : Int) then ((block_must.f 3).bind fun _ => (block_reader_entry.j0 k a1 a2 bt114.1 bt114.2)) else (block_reader_entry.j0 k a1 a2 bt114.1 bt114.2))) = some (r1, r2, r3) := h); (clear h); (replace H := Option.bind_eq_some_iff.mp H); (obtain ⟨⟨t114, t115⟩, A40, H⟩ := H); (replace H : (if t114 > (a1.size : Int) then ((block_must.f 3).bind fun _ => (block_reader_entry.j0 k a1 a2 t114 t115)) else (block_reader_entry.j0 k a1 a2 t114 t115)) = some (r1, r2, r3) := H); (have A4 := Aside0.mk A40); (clear A40); (have HC5 := Aside0.mk H); (clear H); (go_enter Try.func74, Try.ntmps74)
  go_upto_if 14 with (first | ((with_reducible refine gate_dst (N := 6) rfl ?_); refine box_event ?hg (N := 6) ?hd (cs := #[.string (⟨#[]⟩ : ByteArray), .string (⟨#[]⟩ : ByteArray)]) (t := 25) ?hr ?_; (case hd => rfl); (case hg => rfl); (case hr => first | (go_simp; done) | (go_simp; rfl)); intro gb113 hg w6 hbox hb; have n0_ := Aside0.mk (IsS104.below (by repeat (first | (with_reducible first | exact HI0.out | apply IsS104.alloc | apply IsS104.drewN | apply IsS104.drew | apply IsS104.set_0) | exact HI0.out)) hb); have n1_ := Aside0.mk (KeepBut.trans (by repeat (first | (with_reducible first | exact HK.out | apply KeepBut.set_ | apply keep_drewN | apply keep_drew | apply keep_alloc) | exact HK.out)) (KeepBut.of_below hb g none) (.inl rfl)); have n2_ := Aside0.mk (below_step (by repeat (first | (with_reducible first | exact HB.out | apply y1_ | apply y2_ | apply y3_ | refine y4_ ?_ (IsS104.ge HI0.out)) | exact HB.out)) hb); have n3_ := Aside0.mk (hbox); have n4_ := Aside0.mk ((by rw [hg]; exact (keep_size (w := w) (g := g) (row := none) (by repeat (first | (with_reducible first | exact HK.out | apply KeepBut.set_ | apply keep_drewN | apply keep_drew | apply keep_alloc) | exact HK.out))) : w.heap.size ≤ gb113)); have n5_ := Aside0.mk ((Nat.le_trans HW0.out (by rw [hg]; exact (keep_size (w := w) (g := g) (row := none) (by repeat (first | (with_reducible first | exact HK.out | apply KeepBut.set_ | apply keep_drewN | apply keep_drew | apply keep_alloc) | exact HK.out))) : w.heap.size ≤ gb113) : w0.heap.size ≤ gb113)); have n6_ := Aside0.mk ((by rw [hg]; exact Nat.ne_of_lt (IsS104.lt (show IsS104 w0 _ g s0_0 from by repeat (first | (with_reducible first | exact HI0.out | apply IsS104.alloc | apply IsS104.drewN | apply IsS104.drew | apply IsS104.set_0) | exact HI0.out))) : g ≠ gb113)); have n7_ := Aside0.mk ((by rw [hg]; exact Nat.ne_of_gt (IsS104.lt (show IsS104 w0 _ g s0_0 from by repeat (first | (with_reducible first | exact HI0.out | apply IsS104.alloc | apply IsS104.drewN | apply IsS104.drew | apply IsS104.set_0) | exact HI0.out))) : gb113 ≠ g)); clear HI0; clear HK; clear HB; have HI0 := n0_; have HK := n1_; have HB := n2_; have BK113 := n3_; have GW113 := n4_; have GE113 := n5_; have NB0_113 := n6_; have NB113_0 := n7_; clear n0_ n1_ n2_ n3_ n4_ n5_ n6_ n7_; clear hb hbox hg) | ((with_reducible refine gate_callee (f := 73) rfl ?_); refine goesL_ (some 10) rfl rfl Try.func73 (by kernel_rfl) rfl #[.pointer (some ⟨g, 0, none⟩)] rfl (by (try simp only [List.map_toArray, List.map_cons, List.map_nil]); first | done | rfl | (simp only [List.length_drop, List.length_take]; rfl)) ?_; (with_reducible refine (block_reader_num.calls k g s0_0 t114 t115 w0 _ ?side1 ?side2 A4.out).mono ?_); (case side1 => repeat (first | (with_reducible first | exact HI0.out | apply IsS104.alloc | apply IsS104.drewN | apply IsS104.drew | apply IsS104.set_0 | refine IsS104.far ?_ NB0_113.out _) | exact HI0.out)); (case side2 => repeat (first | (with_reducible first | exact HB.out | apply y1_ | apply y2_ | apply y3_ | refine y4_ ?_ (IsS104.ge HI0.out) | refine y4_ ?_ GE113.out) | exact HB.out)); rintro e w7 ⟨rfl, hi, hb, hk⟩; refine ⟨_, rfl, ?_⟩; have n0_ := Aside0.mk (KeepBut.blk hk (g' := gb113) (o := .cells #[.string (⟨#[]⟩ : ByteArray), .string (⟨#[]⟩ : ByteArray)] 25 (0, 0)) (by (with_reducible repeat (first | refine z1_ ?_ _ | refine z2_ ?_ | refine z3_ ?_ _)); exact BK113.out) NB113_0.out (by simp)); have n1_ := Aside0.mk (KeepBut.trans (by repeat (first | (with_reducible first | exact HK.out | apply KeepBut.set_ | apply keep_drewN | apply keep_drew | apply keep_alloc | refine keep_far ?_ GW113.out _) | exact HK.out)) hk (.inl rfl)); have n2_ := Aside0.mk (hb); have n3_ := Aside0.mk (hi); clear BK113; clear HK; clear HB; clear HI0; have BK113 := n0_; have HK := n1_; have HB := n2_; have HI0 := n3_; clear n0_ n1_ n2_ n3_; (try clear hb); (try clear hb2); (try clear hk); (try clear hi)))
  ((try simp only [Act.put, List.setIfInBounds_toArray, List.set_cons_zero, List.set_cons_succ])); (go_cut [] (fun wc => ∃ (kq : Nat), Aside0 (block_reader_entry.j0 kq a1 a2 t114 t115 = some (r1, r2, r3)) ∧ Aside0 (kq ≤ k) ∧ Aside0 (wc.heap[gb113]? = some (.cells #[.string (⟨#[]⟩ : ByteArray), .string (⟨#[]⟩ : ByteArray)] 25 (0, 0))) ∧ Aside0 (IsS104 w0 wc g t115) ∧ Aside0 (KeepBut w wc g none) ∧ Aside0 (Below w0.heap.size w0 wc)))
  case first =>
    (have H := HC5.out); (clear HC5); (by_cases c8 : t114 > (a1.size : Int))
    · rw [if_pos c8] at H
      (have c8b0 : decide ((a1.size : Int) < t114) = true := decide_eq_true c8); (clear c8); ((first | rw [c8b0] | (simp only [i64_w, i32_w]; rw [c8b0]) | skip)); (replace H := Option.bind_eq_some_iff.mp H); (obtain ⟨_, A90, H⟩ := H); (replace H : (block_reader_entry.j0 k a1 a2 t114 t115) = some (r1, r2, r3) := H); (have A9 := Aside0.mk A90); (clear A90); (have H' := Aside0.mk H); (clear H); (go_wp2_with (first | ((with_reducible refine gate_callee (f := 75) rfl ?_); refine goesL_ (some 15) rfl rfl Try.func75 (by kernel_rfl) rfl #[.int .i64 3] rfl (by (try simp only [List.map_toArray, List.map_cons, List.map_nil]); first | done | rfl | (simp only [List.length_drop, List.length_take]; rfl)) ?_; (with_reducible refine (block_must.calls 3  _ A9.out).mono ?_); rintro e w' ⟨rfl, ⟨nd, rfl⟩⟩; refine ⟨_, rfl, ?_⟩))); (go_meet)
      case rel => exact ⟨_, H', ⟨by first | omega | exact Nat.le_refl _⟩, ⟨by (with_reducible repeat (first | refine z1_ ?_ _ | refine z2_ ?_ | refine z3_ ?_ _)); exact BK113.out⟩, ⟨by repeat (first | (with_reducible first | exact HI0.out | apply IsS104.alloc | apply IsS104.drewN | apply IsS104.drew | apply IsS104.set_0 | refine IsS104.far ?_ NB0_113.out _) | exact HI0.out)⟩, ⟨by repeat (first | (with_reducible first | exact HK.out | apply KeepBut.set_ | apply keep_drewN | apply keep_drew | apply keep_alloc | refine keep_far ?_ GW113.out _) | exact HK.out)⟩, ⟨by repeat (first | (with_reducible first | exact HB.out | apply y1_ | apply y2_ | apply y3_ | refine y4_ ?_ (IsS104.ge HI0.out) | refine y4_ ?_ GE113.out) | exact HB.out)⟩⟩
    · rw [if_neg c8] at H
      (have c8b0 : decide ((a1.size : Int) < t114) = false := decide_eq_false c8); (clear c8); ((first | rw [c8b0] | (simp only [i64_w, i32_w]; rw [c8b0]) | skip)); (have H' := Aside0.mk H); (clear H); (go_wp2); (go_meet)
      case rel => exact ⟨_, H', ⟨by first | omega | exact Nat.le_refl _⟩, ⟨by (with_reducible repeat (first | refine z1_ ?_ _ | refine z2_ ?_ | refine z3_ ?_ _)); exact BK113.out⟩, ⟨by repeat (first | (with_reducible first | exact HI0.out | apply IsS104.alloc | apply IsS104.drewN | apply IsS104.drew | apply IsS104.set_0 | refine IsS104.far ?_ NB0_113.out _) | exact HI0.out)⟩, ⟨by repeat (first | (with_reducible first | exact HK.out | apply KeepBut.set_ | apply keep_drewN | apply keep_drew | apply keep_alloc | refine keep_far ?_ GW113.out _) | exact HK.out)⟩, ⟨by repeat (first | (with_reducible first | exact HB.out | apply y1_ | apply y2_ | apply y3_ | refine y4_ ?_ (IsS104.ge HI0.out) | refine y4_ ?_ GE113.out) | exact HB.out)⟩⟩
  case rest =>
    (clear HC5); (try clear p2); (try clear c7); (try clear c8); (try clear c8b0); (obtain ⟨kq, HA, HJ4, BK113, HI0, HK, HB⟩ := hcut)
    cases kq with
    | zero => exact absurd HA.out (by simp [block_reader_entry.j0])
    | succ kj4 =>
      (have H := HA.out); (clear HA); (simp only [block_reader_entry.j0] at H); (by_cases c10 : 0 ≤ t114)
      · rw [if_pos c10] at H
        (have c10b0 := eq_true c10); (have c10b1 : decide (0 ≤ t114) = true := decide_eq_true c10); (clear c10); (by_cases c11 : t114 ≤ (a1.size : Int))
        · rw [if_pos c11] at H
          (have c11b0 := eq_true c11); (have c11b1 : decide (t114 ≤ (a1.size : Int)) = true := decide_eq_true c11); (clear c11); (replace H := Option.bind_eq_some_iff.mp H); (obtain ⟨⟨t116, t117⟩, A120, H⟩ := H); (replace H : (if (a1.extract 0 (t114 : Int).toNat).size + t116.size ≤ 9223372036854775807 then (if a2 = true then ((key_Shared.f kj4 a1 ((a1.extract 0 (t114 : Int).toNat) ++ t116)).bind fun t118 => (block_reader_entry.j1 kj4 ((a1.extract 0 (t114 : Int).toNat) ++ t116) (t118 != t114) t117)) else (if ((Op.bytesLess a1.toList (((a1.extract 0 (t114 : Int).toNat) ++ t116).toList)) = true) then ((key_Shared.f kj4 a1 ((a1.extract 0 (t114 : Int).toNat) ++ t116)).bind fun t119 => (block_reader_entry.j1 kj4 ((a1.extract 0 (t114 : Int).toNat) ++ t116) (t119 != t114) t117)) else (block_reader_entry.j1 kj4 ((a1.extract 0 (t114 : Int).toNat) ++ t116) true t117))) else (none)) = some (r1, r2, r3) := H); (have A12 := Aside0.mk A120); (clear A120); (by_cases c13 : (a1.extract 0 (t114 : Int).toNat).size + t116.size ≤ 9223372036854775807)
          · rw [if_pos c13] at H
            (have c13b9 : ¬ (9223372036854775807 < t114.toNat + t116.size) := (by have h_ := c13; rw [ByteArray.size_extract] at h_; have h1_ : t114 ≤ (a1.size : Int) := of_decide_eq_true (by assumption); omega)); (have c13b0 := eq_true c13); (have c13b1 : decide ((a1.extract 0 (t114 : Int).toNat).size + t116.size ≤ 9223372036854775807) = true := decide_eq_true c13); (try have c13b2 : (9223372036854775807 < (a1.extract 0 (t114 : Int).toNat).size + t116.size) = False := eq_false (Nat.not_lt.2 c13)); (have HC14 := Aside0.mk H); (clear H); (try go_wp2); (have n0_ := Aside0.mk (blk_drew BK113.out)); (have n1_ := Aside0.mk (IsS104.drew HI0.out)); (have n2_ := Aside0.mk (keep_drew HK.out)); (have n3_ := Aside0.mk (below_drew1 HB.out)); (clear BK113 HI0 HK HB); (have BK113 := n0_); (have HI0 := n1_); (have HK := n2_); (have HB := n3_); (clear n0_ n1_ n2_ n3_); (refine start_ (n := 7) (S := fun w' => True) (ds := []) #[false, false, false, false, false, false, false] (by kernel_rfl) rfl rfl trivial (fun hHeld => ?_)); (generalize wc.drew = w15 at BK113 HI0 HK HB hHeld ⊢); (refine pure_ (i := 0) (N := some 16) (v := ?_) (a' := ?_) #[true, false, false, false, false, false, false] rfl rfl (by kernel_rfl) (fun _ _ _ h => h) (Or.inl ⟨by rfl, ?_⟩) ?_ ?_)
            rotate_left
            · intro w'
              (go_simp); (with_reducible rfl)
            rotate_left
            · simp only [pt_, pn_, sz_, ss_, i64_w, i32_w]
              rfl
            refine pure_ (i := 1) (N := some 17) (v := ?_) (a' := ?_) #[true, true, false, false, false, false, false] rfl rfl (by kernel_rfl) (fun _ _ _ h => h) (Or.inl ⟨by rfl, ?_⟩) ?_ ?_
            rotate_left
            · intro w'
              (go_simp); (with_reducible rfl)
            rotate_left
            · simp only [pt_, pn_, sz_, ss_, i64_w, i32_w]
              rfl
            refine pure_ (i := 2) (N := some 18) (v := ?_) (a' := ?_) #[true, true, true, false, false, false, false] rfl rfl (by kernel_rfl) (fun _ _ _ h => h) (Or.inl ⟨by rfl, ?_⟩) ?_ ?_
            rotate_left
            · intro w'
              (go_simp); (with_reducible rfl)
            rotate_left
            · simp only [pt_, pn_, sz_, ss_, i64_w, i32_w]
              rfl
            refine pure_ (i := 3) (N := some 19) (v := ?_) (a' := ?_) #[true, true, true, true, false, false, false] rfl rfl (by kernel_rfl) (fun _ _ _ h => h) (Or.inl ⟨by rfl, ?_⟩) ?_ ?_
            rotate_left
            · intro w'
              (go_simp); (with_reducible rfl)
            rotate_left
            · simp only [pt_, pn_, sz_, ss_, i64_w, i32_w]
              rfl
            (refine one_ (i := 4) (N := some 20) #[true, true, true, true, true, false, false] rfl rfl (by kernel_rfl) (by decide) (fun K hK => ?_)); (refine goes_ Try.func125 (by kernel_rfl) rfl #[.pointer (some ⟨g, 0, none⟩), .int .i64 256] (by rfl) rfl rfl (by (try simp only [List.map_toArray, List.map_cons, List.map_nil]); first | done | rfl | (simp only [List.length_drop, List.length_take]; rfl)) ?_); (with_reducible refine (block_reader_text.calls kj4 g t115 256 t116 t117 w0 _ ?side1 ?side2 A12.out).mono ?_); ((case side1 => repeat (first | (with_reducible first | exact HI0.out | apply IsS104.alloc | apply IsS104.drewN | apply IsS104.drew | apply IsS104.set_0 | refine IsS104.far ?_ NB0_113.out _) | exact HI0.out))); ((case side2 => repeat (first | (with_reducible first | exact HB.out | apply y1_ | apply y2_ | apply y3_ | refine y4_ ?_ (IsS104.ge HI0.out) | refine y4_ ?_ GE113.out) | exact HB.out))); (rintro e w16 ⟨rfl, hi, hb, hk⟩); (refine ⟨_, rfl, ?_⟩)
            (have n0_ := Aside0.mk (KeepBut.blk hk (g' := gb113) (o := .cells #[.string (⟨#[]⟩ : ByteArray), .string (⟨#[]⟩ : ByteArray)] 25 (0, 0)) (by (with_reducible repeat (first | refine z1_ ?_ _ | refine z2_ ?_ | refine z3_ ?_ _)); exact BK113.out) NB113_0.out (by simp))); (have n1_ := Aside0.mk (KeepBut.trans (by repeat (first | (with_reducible first | exact HK.out | apply KeepBut.set_ | apply keep_drewN | apply keep_drew | apply keep_alloc | refine keep_far ?_ GW113.out _) | exact HK.out)) hk (.inl rfl))); (have n2_ := Aside0.mk (hb)); (have n3_ := Aside0.mk (hi)); (clear BK113 HK HB HI0); (have BK113 := n0_); (have HK := n1_); (have HB := n2_); (have HI0 := n3_); (clear n0_ n1_ n2_ n3_); ((try clear hb)); ((try clear hb2)); ((try clear hk)); ((try clear hi)); (refine hK.out _ _ trivial (fun hHeld => ?_)); (clear hK K); (refine norm_ (a' := ?_) ?_ ?_)
            rotate_left
            · show Act.put _ (some 20) _ = _
              (simp only [pt_, pn_, sz_, ss_, i64_w, i32_w]); (rfl)
            refine pure_ (i := 5) (N := some 21) (v := ?_) (a' := ?_) #[true, true, true, true, true, true, false] rfl rfl (by kernel_rfl) (fun _ _ _ h => h) (Or.inl ⟨by rfl, ?_⟩) ?_ ?_
            rotate_left
            · intro w'
              (go_simp); (with_reducible rfl)
            rotate_left
            · simp only [pt_, pn_, sz_, ss_, i64_w, i32_w]
              rfl
            refine pure_ (i := 6) (N := some 8) (v := ?_) (a' := ?_) #[true, true, true, true, true, true, true] rfl rfl (by kernel_rfl) (fun _ _ _ h => h) (Or.inl ⟨by rfl, ?_⟩) ?_ ?_
            rotate_left
            · intro w'
              (go_simp); (with_reducible rfl)
            rotate_left
            · simp only [pt_, pn_, sz_, ss_, i64_w, i32_w]
              rfl
            (refine done_ (by kernel_rfl) ?_); (go_upto_region 5 with (fail)); (go_cut [35] (fun v35 wc => ∃ (kq : Nat) (x35_13 : Bool), v35 = .bool x35_13 ∧ Aside0 (block_reader_entry.j1 kq ((a1.extract 0 (t114 : Int).toNat) ++ t116) x35_13 t117 = some (r1, r2, r3)) ∧ Aside0 (kq ≤ kj4) ∧ Aside0 (wc.heap[gb113]? = some (.cells #[.string (⟨#[]⟩ : ByteArray), .string (⟨#[]⟩ : ByteArray)] 25 (0, 0))) ∧ Aside0 (IsS104 w0 wc g t117) ∧ Aside0 (KeepBut w wc g none) ∧ Aside0 (Below w0.heap.size w0 wc)))
            case first =>
              (have H := HC14.out); (clear HC14); (by_cases c17 : a2 = true)
              · subst c17
                (have H1 : ((key_Shared.f kj4 a1 ((a1.extract 0 (t114 : Int).toNat) ++ t116)).bind fun t118 => (block_reader_entry.j1 kj4 ((a1.extract 0 (t114 : Int).toNat) ++ t116) (t118 != t114) t117)) = some (r1, r2, r3) := by rw [if_pos rfl] at H; exact H); (clear H); (have H := H1); (clear H1); (replace H := Option.bind_eq_some_iff.mp H); (obtain ⟨t118, A180, H⟩ := H); (replace H : (block_reader_entry.j1 kj4 ((a1.extract 0 (t114 : Int).toNat) ++ t116) (t118 != t114) t117) = some (r1, r2, r3) := H); (have A18 := Aside0.mk A180); (clear A180); (have H' := Aside0.mk H); (clear H)
                go_wp2_with (first | (go_at_call 82; (with_reducible refine (key_Shared.calls kj4 a1 ((a1.extract 0 (t114 : Int).toNat) ++ t116) t118 _ A18.out).mono ?_); rintro e w19 ⟨rfl, hb⟩; have n0_ := Aside0.mk (blk_below (g := gb113) (o := .cells #[.string (⟨#[]⟩ : ByteArray), .string (⟨#[]⟩ : ByteArray)] 25 (0, 0)) (by (with_reducible repeat (first | refine z1_ ?_ _ | refine z2_ ?_ | refine z3_ ?_ _)); exact BK113.out) hb); have n1_ := Aside0.mk (IsS104.below (by repeat (first | (with_reducible first | exact HI0.out | apply IsS104.alloc | apply IsS104.drewN | apply IsS104.drew | apply IsS104.set_0 | refine IsS104.far ?_ NB0_113.out _) | exact HI0.out)) hb); have n2_ := Aside0.mk (KeepBut.trans (by repeat (first | (with_reducible first | exact HK.out | apply KeepBut.set_ | apply keep_drewN | apply keep_drew | apply keep_alloc | refine keep_far ?_ GW113.out _) | exact HK.out)) (KeepBut.of_below hb g none) (.inl rfl)); have n3_ := Aside0.mk (below_step (by repeat (first | (with_reducible first | exact HB.out | apply y1_ | apply y2_ | apply y3_ | refine y4_ ?_ (IsS104.ge HI0.out) | refine y4_ ?_ GE113.out) | exact HB.out)) hb); clear BK113; clear HI0; clear HK; clear HB; have BK113 := n0_; have HI0 := n1_; have HK := n2_; have HB := n3_; clear n0_ n1_ n2_ n3_; (try clear hb); (try clear hb2); (try clear hk); (try clear hi)))
                go_meet
                case rel => exact ⟨_, ((t118 != t114)), (by first | rfl | (simp; done) | (simp [*]; done)), H', ⟨by have := HJ4.out; first | omega | exact Nat.le_refl _⟩, ⟨by (with_reducible repeat (first | refine z1_ ?_ _ | refine z2_ ?_ | refine z3_ ?_ _)); exact BK113.out⟩, ⟨by repeat (first | (with_reducible first | exact HI0.out | apply IsS104.alloc | apply IsS104.drewN | apply IsS104.drew | apply IsS104.set_0 | refine IsS104.far ?_ NB0_113.out _) | exact HI0.out)⟩, ⟨by repeat (first | (with_reducible first | exact HK.out | apply KeepBut.set_ | apply keep_drewN | apply keep_drew | apply keep_alloc | refine keep_far ?_ GW113.out _) | exact HK.out)⟩, ⟨by repeat (first | (with_reducible first | exact HB.out | apply y1_ | apply y2_ | apply y3_ | refine y4_ ?_ (IsS104.ge HI0.out) | refine y4_ ?_ GE113.out) | exact HB.out)⟩⟩
              · replace c17 := Bool.eq_false_iff.mpr c17
                (subst c17); (have H1 : (if ((Op.bytesLess a1.toList (((a1.extract 0 (t114 : Int).toNat) ++ t116).toList)) = true) then ((key_Shared.f kj4 a1 ((a1.extract 0 (t114 : Int).toNat) ++ t116)).bind fun t119 => (block_reader_entry.j1 kj4 ((a1.extract 0 (t114 : Int).toNat) ++ t116) (t119 != t114) t117)) else (block_reader_entry.j1 kj4 ((a1.extract 0 (t114 : Int).toNat) ++ t116) true t117)) = some (r1, r2, r3) := by rw [if_neg (show ¬ (false = true) by decide)] at H; exact H); (clear H); (have H := H1); (clear H1); (by_cases c20 : ((Op.bytesLess a1.toList (((a1.extract 0 (t114 : Int).toNat) ++ t116).toList)) = true))
                · rw [if_pos c20] at H
                  (have c20b0 : (Op.bytesLess a1.toList (((a1.extract 0 (t114 : Int).toNat) ++ t116).toList)) = true := c20); (clear c20); ((first | rw [c20b0] | (simp only [i64_w, i32_w]; rw [c20b0]) | skip)); (replace H := Option.bind_eq_some_iff.mp H); (obtain ⟨t119, A210, H⟩ := H); (replace H : (block_reader_entry.j1 kj4 ((a1.extract 0 (t114 : Int).toNat) ++ t116) (t119 != t114) t117) = some (r1, r2, r3) := H); (have A21 := Aside0.mk A210); (clear A210); (have H' := Aside0.mk H); (clear H)
                  go_wp2_with (first | (go_at_call 82; (with_reducible refine (key_Shared.calls kj4 a1 ((a1.extract 0 (t114 : Int).toNat) ++ t116) t119 _ A21.out).mono ?_); rintro e w22 ⟨rfl, hb⟩; have n0_ := Aside0.mk (blk_below (g := gb113) (o := .cells #[.string (⟨#[]⟩ : ByteArray), .string (⟨#[]⟩ : ByteArray)] 25 (0, 0)) (by (with_reducible repeat (first | refine z1_ ?_ _ | refine z2_ ?_ | refine z3_ ?_ _)); exact BK113.out) hb); have n1_ := Aside0.mk (IsS104.below (by repeat (first | (with_reducible first | exact HI0.out | apply IsS104.alloc | apply IsS104.drewN | apply IsS104.drew | apply IsS104.set_0 | refine IsS104.far ?_ NB0_113.out _) | exact HI0.out)) hb); have n2_ := Aside0.mk (KeepBut.trans (by repeat (first | (with_reducible first | exact HK.out | apply KeepBut.set_ | apply keep_drewN | apply keep_drew | apply keep_alloc | refine keep_far ?_ GW113.out _) | exact HK.out)) (KeepBut.of_below hb g none) (.inl rfl)); have n3_ := Aside0.mk (below_step (by repeat (first | (with_reducible first | exact HB.out | apply y1_ | apply y2_ | apply y3_ | refine y4_ ?_ (IsS104.ge HI0.out) | refine y4_ ?_ GE113.out) | exact HB.out)) hb); clear BK113; clear HI0; clear HK; clear HB; have BK113 := n0_; have HI0 := n1_; have HK := n2_; have HB := n3_; clear n0_ n1_ n2_ n3_; (try clear hb); (try clear hb2); (try clear hk); (try clear hi)))
                  go_meet
                  case rel => exact ⟨_, ((t119 != t114)), (by first | rfl | (simp; done) | (simp [*]; done)), H', ⟨by have := HJ4.out; first | omega | exact Nat.le_refl _⟩, ⟨by (with_reducible repeat (first | refine z1_ ?_ _ | refine z2_ ?_ | refine z3_ ?_ _)); exact BK113.out⟩, ⟨by repeat (first | (with_reducible first | exact HI0.out | apply IsS104.alloc | apply IsS104.drewN | apply IsS104.drew | apply IsS104.set_0 | refine IsS104.far ?_ NB0_113.out _) | exact HI0.out)⟩, ⟨by repeat (first | (with_reducible first | exact HK.out | apply KeepBut.set_ | apply keep_drewN | apply keep_drew | apply keep_alloc | refine keep_far ?_ GW113.out _) | exact HK.out)⟩, ⟨by repeat (first | (with_reducible first | exact HB.out | apply y1_ | apply y2_ | apply y3_ | refine y4_ ?_ (IsS104.ge HI0.out) | refine y4_ ?_ GE113.out) | exact HB.out)⟩⟩
                · rw [if_neg c20] at H
                  (have c20b0 : (Op.bytesLess a1.toList (((a1.extract 0 (t114 : Int).toNat) ++ t116).toList)) = false := by simpa using c20); (clear c20); ((first | rw [c20b0] | (simp only [i64_w, i32_w]; rw [c20b0]) | skip)); (have H' := Aside0.mk H); (clear H); (go_wp2); (go_meet)
                  case rel => exact ⟨_, (true), (by first | rfl | (simp; done) | (simp [*]; done)), H', ⟨by have := HJ4.out; first | omega | exact Nat.le_refl _⟩, ⟨by (with_reducible repeat (first | refine z1_ ?_ _ | refine z2_ ?_ | refine z3_ ?_ _)); exact BK113.out⟩, ⟨by repeat (first | (with_reducible first | exact HI0.out | apply IsS104.alloc | apply IsS104.drewN | apply IsS104.drew | apply IsS104.set_0 | refine IsS104.far ?_ NB0_113.out _) | exact HI0.out)⟩, ⟨by repeat (first | (with_reducible first | exact HK.out | apply KeepBut.set_ | apply keep_drewN | apply keep_drew | apply keep_alloc | refine keep_far ?_ GW113.out _) | exact HK.out)⟩, ⟨by repeat (first | (with_reducible first | exact HB.out | apply y1_ | apply y2_ | apply y3_ | refine y4_ ?_ (IsS104.ge HI0.out) | refine y4_ ?_ GE113.out) | exact HB.out)⟩⟩
            case rest =>
              (clear HC14); (try clear c1); (try clear c2); (try clear p2); (try clear c7); (try clear c8); (try clear c8b0); (try clear c10); (try clear c10b0); (try clear c10b1); (try clear c11); (try clear c11b0); (try clear c11b1); (try clear c12); (try clear c13); (try clear c13b0); (try clear c13b1); (try clear c13b2); (try clear c17); (try clear c20); (try clear c20b0); (try clear p2); (obtain ⟨kq, x35_13, rfl, HA, HJ13, BK113, HI0, HK, HB⟩ := hcut)
              cases kq with
              | zero => exact absurd HA.out (by simp [block_reader_entry.j1])
              | succ kj13 =>
                (have H := HA.out); (clear HA); (simp only [block_reader_entry.j1] at H); (have HC23 := Aside0.mk H); (clear H); (go_upto_if 35 with (fail)); (go_cut [] (fun wc => ∃ (kq : Nat), Aside0 (block_reader_entry.j2 kq ((a1.extract 0 (t114 : Int).toNat) ++ t116) t117 = some (r1, r2, r3)) ∧ Aside0 (kq ≤ kj13) ∧ Aside0 (wc.heap[gb113]? = some (.cells #[.string (⟨#[]⟩ : ByteArray), .string (⟨#[]⟩ : ByteArray)] 25 (0, 0))) ∧ Aside0 (IsS104 w0 wc g t117) ∧ Aside0 (KeepBut w wc g none) ∧ Aside0 (Below w0.heap.size w0 wc)))
                case first =>
                  (have H := HC23.out); (clear HC23); (by_cases c24 : x35_13 = true)
                  · subst c24
                    (have H1 : ((block_must.f 16).bind fun _ => (block_reader_entry.j2 kj13 ((a1.extract 0 (t114 : Int).toNat) ++ t116) t117)) = some (r1, r2, r3) := by rw [if_pos rfl] at H; exact H); (clear H); (have H := H1); (clear H1); (replace H := Option.bind_eq_some_iff.mp H); (obtain ⟨_, A250, H⟩ := H); (replace H : (block_reader_entry.j2 kj13 ((a1.extract 0 (t114 : Int).toNat) ++ t116) t117) = some (r1, r2, r3) := H); (have A25 := Aside0.mk A250); (clear A250); (have H' := Aside0.mk H); (clear H); (go_wp2_with (first | ((with_reducible refine gate_callee (f := 75) rfl ?_); refine goesL_ (some 36) rfl rfl Try.func75 (by kernel_rfl) rfl #[.int .i64 16] rfl (by (try simp only [List.map_toArray, List.map_cons, List.map_nil]); first | done | rfl | (simp only [List.length_drop, List.length_take]; rfl)) ?_; (with_reducible refine (block_must.calls 16  _ A25.out).mono ?_); rintro e w' ⟨rfl, ⟨nd, rfl⟩⟩; refine ⟨_, rfl, ?_⟩))); (go_meet)
                    case rel => exact ⟨_, H', ⟨by have := HJ4.out; have := HJ13.out; first | omega | exact Nat.le_refl _⟩, ⟨by (with_reducible repeat (first | refine z1_ ?_ _ | refine z2_ ?_ | refine z3_ ?_ _)); exact BK113.out⟩, ⟨by repeat (first | (with_reducible first | exact HI0.out | apply IsS104.alloc | apply IsS104.drewN | apply IsS104.drew | apply IsS104.set_0 | refine IsS104.far ?_ NB0_113.out _) | exact HI0.out)⟩, ⟨by repeat (first | (with_reducible first | exact HK.out | apply KeepBut.set_ | apply keep_drewN | apply keep_drew | apply keep_alloc | refine keep_far ?_ GW113.out _) | exact HK.out)⟩, ⟨by repeat (first | (with_reducible first | exact HB.out | apply y1_ | apply y2_ | apply y3_ | refine y4_ ?_ (IsS104.ge HI0.out) | refine y4_ ?_ GE113.out) | exact HB.out)⟩⟩
                  · replace c24 := Bool.eq_false_iff.mpr c24
                    (subst c24); (have H1 : (block_reader_entry.j2 kj13 ((a1.extract 0 (t114 : Int).toNat) ++ t116) t117) = some (r1, r2, r3) := by rw [if_neg (show ¬ (false = true) by decide)] at H; exact H); (clear H); (have H := H1); (clear H1); (have H' := Aside0.mk H); (clear H); (go_wp2); (go_meet)
                    case rel => exact ⟨_, H', ⟨by have := HJ4.out; have := HJ13.out; first | omega | exact Nat.le_refl _⟩, ⟨by (with_reducible repeat (first | refine z1_ ?_ _ | refine z2_ ?_ | refine z3_ ?_ _)); exact BK113.out⟩, ⟨by repeat (first | (with_reducible first | exact HI0.out | apply IsS104.alloc | apply IsS104.drewN | apply IsS104.drew | apply IsS104.set_0 | refine IsS104.far ?_ NB0_113.out _) | exact HI0.out)⟩, ⟨by repeat (first | (with_reducible first | exact HK.out | apply KeepBut.set_ | apply keep_drewN | apply keep_drew | apply keep_alloc | refine keep_far ?_ GW113.out _) | exact HK.out)⟩, ⟨by repeat (first | (with_reducible first | exact HB.out | apply y1_ | apply y2_ | apply y3_ | refine y4_ ?_ (IsS104.ge HI0.out) | refine y4_ ?_ GE113.out) | exact HB.out)⟩⟩
                case rest =>
                  (clear HC23); (try clear c1); (try clear c2); (try clear p2); (try clear c7); (try clear c8); (try clear c8b0); (try clear c10); (try clear c10b0); (try clear c10b1); (try clear c11); (try clear c11b0); (try clear c11b1); (try clear c12); (try clear c13); (try clear c13b0); (try clear c13b1); (try clear c13b2); (try clear c17); (try clear c20); (try clear c20b0); (try clear c24); (try clear p2); (obtain ⟨kq, HA, HJ22, BK113, HI0, HK, HB⟩ := hcut)
                  cases kq with
                  | zero => exact absurd HA.out (by simp [block_reader_entry.j2])
                  | succ kj22 =>
                    (have H := HA.out); (clear HA); (simp only [block_reader_entry.j2] at H); (replace H := Option.bind_eq_some_iff.mp H); (obtain ⟨⟨t120, t121⟩, A260, H⟩ := H); (replace H : (some (((a1.extract 0 (t114 : Int).toNat) ++ t116), t120, t121)) = some (r1, r2, r3) := H); (have A26 := Aside0.mk A260); (clear A260); (simp only [Option.some.injEq, Prod.mk.injEq] at H); (obtain ⟨rfl, rfl, rfl⟩ := H)
                    go_wp2_with (first | ((with_reducible refine gate_callee (f := 125) rfl ?_); refine goesL_ (some 39) rfl rfl Try.func125 (by kernel_rfl) rfl #[.pointer (some ⟨g, 0, none⟩), .int .i64 4096] rfl (by (try simp only [List.map_toArray, List.map_cons, List.map_nil]); first | done | rfl | (simp only [List.length_drop, List.length_take]; rfl)) ?_; (with_reducible refine (block_reader_text.calls kj22 g t117 4096 t120 t121 w0 _ ?side1 ?side2 A26.out).mono ?_); (case side1 => repeat (first | (with_reducible first | exact HI0.out | apply IsS104.alloc | apply IsS104.drewN | apply IsS104.drew | apply IsS104.set_0 | refine IsS104.far ?_ NB0_113.out _) | exact HI0.out)); (case side2 => repeat (first | (with_reducible first | exact HB.out | apply y1_ | apply y2_ | apply y3_ | refine y4_ ?_ (IsS104.ge HI0.out) | refine y4_ ?_ GE113.out) | exact HB.out)); rintro e w27 ⟨rfl, hi, hb, hk⟩; refine ⟨_, rfl, ?_⟩; have n0_ := Aside0.mk (KeepBut.blk hk (g' := gb113) (o := .cells #[.string (⟨#[]⟩ : ByteArray), .string (⟨#[]⟩ : ByteArray)] 25 (0, 0)) (by (with_reducible repeat (first | refine z1_ ?_ _ | refine z2_ ?_ | refine z3_ ?_ _)); exact BK113.out) NB113_0.out (by simp)); have n1_ := Aside0.mk (KeepBut.trans (by repeat (first | (with_reducible first | exact HK.out | apply KeepBut.set_ | apply keep_drewN | apply keep_drew | apply keep_alloc | refine keep_far ?_ GW113.out _) | exact HK.out)) hk (.inl rfl)); have n2_ := Aside0.mk (hb); have n3_ := Aside0.mk (hi); clear BK113; clear HK; clear HB; clear HI0; have BK113 := n0_; have HK := n1_; have HB := n2_; have HI0 := n3_; clear n0_ n1_ n2_ n3_; (try clear hb); (try clear hb2); (try clear hk); (try clear hi); have hnb28 := NB113_0.out; have hnc28 := NB0_113.out; have hcz29_0 : w27.cell? ⟨gb113, 0, none⟩ = some (.string (⟨#[]⟩ : ByteArray)) := (blk_cell BK113.out 0).trans rfl; have hcz29_1 : w27.cell? ⟨gb113, 1, none⟩ = some (.string (⟨#[]⟩ : ByteArray)) := (blk_cell BK113.out 1).trans rfl; have hfz29_0 := blk_frozen BK113.out 0; have hfz29_1 := blk_frozen BK113.out 1))
                    refine bodyPost_ret (results_cell_row rfl _ _ gb113 25 #[.string ((a1.extract 0 (t114 : Int).toNat) ++ t116), .string t120] (0, 0) _ rfl (by (with_reducible repeat (first | refine z1_ ?_ _ | refine z2_ ?_ | refine z3_ ?_ _)); refine blk_put (cs := #[.string ((a1.extract 0 (t114 : Int).toNat) ++ t116), .string (⟨#[]⟩ : ByteArray)]) ?_ 1 _ rfl; (with_reducible repeat (first | refine z1_ ?_ _ | refine z2_ ?_ | refine z3_ ?_ _)); refine blk_put (cs := #[.string (⟨#[]⟩ : ByteArray), .string (⟨#[]⟩ : ByteArray)]) ?_ 0 _ rfl; (with_reducible repeat (first | refine z1_ ?_ _ | refine z2_ ?_ | refine z3_ ?_ _)); exact BK113.out) Try.underlying25 rfl (by kernel_rfl)) rfl ?_
                    exact ⟨by first | rfl | (simp [errW_none, errW_some] <;> rfl) | (simp [*, errW_none, errW_some] <;> rfl), by repeat (first | (with_reducible first | exact HI0.out | apply IsS104.alloc | apply IsS104.drewN | apply IsS104.drew | apply IsS104.set_0 | refine IsS104.far ?_ NB0_113.out _) | exact HI0.out), by repeat (first | (with_reducible first | exact HB.out | apply y1_ | apply y2_ | apply y3_ | refine y4_ ?_ (IsS104.ge HI0.out) | refine y4_ ?_ GE113.out) | exact HB.out), by repeat (first | (with_reducible first | exact HK.out | apply KeepBut.set_ | apply keep_drewN | apply keep_drew | apply keep_alloc | refine keep_far ?_ GW113.out _) | exact HK.out)⟩
          · rw [if_neg c13] at H
            exact absurd H (by simp)
        · rw [if_neg c11] at H
          exact absurd H (by simp)
      · rw [if_neg c10] at H
        exact absurd H (by simp)

end Go.Proofs.Ytnklnjghecmihaa.H6
