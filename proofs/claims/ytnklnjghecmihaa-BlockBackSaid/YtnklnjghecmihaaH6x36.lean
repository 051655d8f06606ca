-- written by a program of this session (wip/myprint.py), over the kit's printer and the session's own contracts
import Derived.Test.YtnklnjghecmihaaH6x0
import Derived.Test.YtnklnjghecmihaaH6x30
namespace Go.Proofs.Ytnklnjghecmihaa.H6
open Go.RowKit Go.Proofs.YtnklnjghecmihaaW.PrintWords Go.Proofs.YtnklnjghecmihaaW.PrintLast Go.Proofs.YtnklnjghecmihaaW.PrintMore Go.Proofs.YtnklnjghecmihaaW.Mine
attribute [local go_sem] max2_int min2_int max_two min_two max_three min_three max_four min_four max2_str min2_str binOp_gtr_str binOp_leq_str binOp_geq_str   -- for this text's walks alone
set_option linter.unusedVariables false
set_option linter.unusedSimpArgs false

/-! ### catchmentref03_Texts: function 86 -/
def catchmentref03_Texts.l0 : Nat → List ByteArray → ByteArray → Int → Option (ByteArray)
  | 0, _, _, _ => none
  | k + 1, x0, x3, x4 => if x4 < (x0.length : Int) then (if 0 ≤ x4 then ((catchmentref03_Num.f k ((rdOf ByteArray.empty x0 x4).size : Int)).bind fun t192 => (if x3.size + t192.size ≤ 9223372036854775807 then (if (x3 ++ t192).size + (rdOf ByteArray.empty x0 x4).size ≤ 9223372036854775807 then (catchmentref03_Texts.l0 k x0 ((x3 ++ t192) ++ (rdOf ByteArray.empty x0 x4)) (wrap64 (x4 + 1))) else (none)) else (none))) else (none)) else (some x3)
def catchmentref03_Texts.f (k : Nat) (l0 : List ByteArray) : Option (ByteArray) := catchmentref03_Texts.l0 k l0 (⟨#[]⟩ : ByteArray) 0
theorem catchmentref03_Texts.mono_l : ∀ k, (∀ y0 y1 y2, LeO (catchmentref03_Texts.l0 k y0 y1 y2) (catchmentref03_Texts.l0 (k + 1) y0 y1 y2))
  | 0 => fun _ _ _ r h => by simp [catchmentref03_Texts.l0] at h
  | k + 1 => by
    have ih0 := catchmentref03_Texts.mono_l k
    · intro y0 y1 y2
      unfold catchmentref03_Texts.l0
      repeat' first
      | (with_reducible exact ih0 _ _ _)
      | (with_reducible exact catchmentref03_Num.mono _ _)
      | (with_reducible exact LeO.refl _)
      | (with_reducible exact LeO.none _)
      | (with_reducible refine LeO.ite ?_ ?_)
      | (with_reducible refine LeO.bind ?_ (fun _ => ?_))
      | exact ih0 _ _ _
      | exact catchmentref03_Num.mono _ _
      | exact LeO.none _
      | refine LeO.ite ?_ ?_
      | refine LeO.bind ?_ (fun _ => ?_)
theorem catchmentref03_Texts.mono : ∀ a0 k, LeO (catchmentref03_Texts.f k a0) (catchmentref03_Texts.f (k + 1) a0) := by
  (intro a0 k); (have ih0 := catchmentref03_Texts.mono_l k); (unfold catchmentref03_Texts.f)
  repeat' first
      | (with_reducible exact ih0 _ _ _)
      | (with_reducible exact catchmentref03_Num.mono _ _)
      | (with_reducible exact LeO.refl _)
      | (with_reducible exact LeO.none _)
      | (with_reducible refine LeO.ite ?_ ?_)
      | (with_reducible refine LeO.bind ?_ (fun _ => ?_))
      | exact ih0 _ _ _
      | exact catchmentref03_Num.mono _ _
      | exact LeO.none _
      | refine LeO.ite ?_ ?_
      | refine LeO.bind ?_ (fun _ => ?_)
def catchmentref03_Texts.T5 : Bool × List (List Nat × List Nat) := (true, [([], []), ([], []), ([], []), ([1, 2], [1, 2]), ([3], [3]), ([4], [4]), ([5], [5]), ([0, 6], [0, 6]), ([], []), ([], []), ([8, 9], [8, 9]), ([10], [10]), ([7, 11], [7, 11]), ([12, 6, 0, 1, 2, 3, 4, 5, 6, 7, 8, 9, 10, 11, 12], [0, 12])])
def catchmentref03_Texts.B5 : List Nat := [0, 0, 0, 6, 14, 30, 62, 127, 0, 0, 768, 1792, 4095, 8191]
theorem catchmentref03_Texts.tab5 : rtab .any (opsOf Try.f86 5) = catchmentref03_Texts.T5 := by kernel_rfl
theorem catchmentref03_Texts.bits5 : waitsOk catchmentref03_Texts.T5.2 catchmentref03_Texts.B5 = true := by kernel_rfl
set_option maxHeartbeats 8000000 in
set_option maxRecDepth 100000 in
theorem catchmentref03_Texts.calls (k : Nat) (A0 : Option Addr) (c0 : Nat) (l0 : List ByteArray) (r : ByteArray) (w : World) (hr0 : Kd.C Kd.string w A0 l0.length l0) (hc0 : l0.length ≤ c0) (h : catchmentref03_Texts.f k l0 = some r) :
    Calls Try.prog 86 #[.slice A0 l0.length c0] w fun e w' => e = .returned (.string r) ∧ Below w.heap.size w w' := by
  (have HR0 := Aside0.mk hr0); (have HC0 := Aside0.mk hc0); (clear hr0 hc0); (have HB := Aside0.mk (Below.refl w.heap.size w)); (have H : (catchmentref03_Texts.l0 k l0 (⟨#[]⟩ : ByteArray) 0) = some r := h); (clear h); (have H' := Aside0.mk H); (clear H); (go_enter Try.func86, Try.ntmps86); (go_wp2); (go_loopg [3, 4] k (fun kq v3 v4 w' => ∃ (x3_1 : ByteArray) (x4_1 : Int), v3 = .string x3_1 ∧ v4 = .int .i64 x4_1 ∧ Aside0 (catchmentref03_Texts.l0 kq l0 x3_1 x4_1 = some r) ∧ Aside0 (kq ≤ k) ∧ Aside0 (Below w.heap.size w w')))
  case atStart => exact ⟨((⟨#[]⟩ : ByteArray)), (0), (by first | rfl | (simp; done) | (simp [*]; done)), (by first | rfl | (simp; done) | (simp [*]; done)), H', ⟨Nat.le_refl _⟩, ⟨by repeat (first | (with_reducible first | exact HB.out | apply y1_ | apply y2_ | apply y3_) | exact HB.out)⟩⟩
  case round =>
    (clear H'); (obtain ⟨x3_1, x4_1, rfl, rfl, HA, HK1, HB⟩ := hrel)
    cases gk with
    | zero => exact absurd HA.out (by simp [catchmentref03_Texts.l0])
    | succ k1 =>
      (have H := HA.out); (clear HA); (simp only [catchmentref03_Texts.l0] at H); (by_cases c2 : x4_1 < (l0.length : Int))
      · rw [if_pos c2] at H
        (have c2b0 : decide (x4_1 < (l0.length : Int)) = true := decide_eq_true c2); (clear c2); (by_cases c3 : 0 ≤ x4_1)
        · rw [if_pos c3] at H
          (have c3b0 : decide (0 ≤ x4_1) = true := decide_eq_true c3); (clear c3); (replace H := Option.bind_eq_some_iff.mp H); (obtain ⟨t192, A40, H⟩ := H); (replace H : (if x3_1.size + t192.size ≤ 9223372036854775807 then (if (x3_1 ++ t192).size + (rdOf ByteArray.empty l0 x4_1).size ≤ 9223372036854775807 then (catchmentref03_Texts.l0 k1 l0 ((x3_1 ++ t192) ++ (rdOf ByteArray.empty l0 x4_1)) (wrap64 (x4_1 + 1))) else (none)) else (none)) = some r := H); (have A4 := Aside0.mk A40); (clear A40); (by_cases c5 : x3_1.size + t192.size ≤ 9223372036854775807)
          · rw [if_pos c5] at H
            (have c5b0 := eq_true c5); (have c5b1 : decide (x3_1.size + t192.size ≤ 9223372036854775807) = true := decide_eq_true c5); (try have c5b2 : (9223372036854775807 < x3_1.size + t192.size) = False := eq_false (Nat.not_lt.2 c5)); (by_cases c6 : (x3_1 ++ t192).size + (rdOf ByteArray.empty l0 x4_1).size ≤ 9223372036854775807)
            · rw [if_pos c6] at H
              (have c6b0 := eq_true c6); (have c6b1 : decide ((x3_1 ++ t192).size + (rdOf ByteArray.empty l0 x4_1).size ≤ 9223372036854775807) = true := decide_eq_true c6); (have c6b3 := eq_false (Nat.not_lt.2 c6)); (simp only [ByteArray.size_append] at c6b3); (try have c6b2 : (9223372036854775807 < (x3_1 ++ t192).size + (rdOf ByteArray.empty l0 x4_1).size) = False := eq_false (Nat.not_lt.2 c6)); (have H' := Aside0.mk H); (clear H); (try go_wp2); (have n0_ := Aside0.mk (below_drew1 HB.out)); (clear HB); (have HB := n0_); (clear n0_); (have p191 : 0 ≤ (x4_1 : Int) := of_decide_eq_true (by first | (with_reducible assumption) | assumption)); (have q191 : x4_1 < (l0.length : Int) := of_decide_eq_true (by first | (with_reducible assumption) | assumption)); (obtain ⟨ad191, e191, hx191_0⟩ := Kd.at_string HR0.out x4_1 p191 q191); (have hw191_0 := hx191_0); (cases e191); (replace hx191_0 := (HB.out.cell (World.block_lt_of_cell? w _ hx191_0)).trans hx191_0); (replace p191 := eq_true p191); (replace q191 := eq_true q191); (have p193 : 0 ≤ (x4_1 : Int) := of_decide_eq_true (by first | (with_reducible assumption) | assumption))
              (have q193 : x4_1 < (l0.length : Int) := of_decide_eq_true (by first | (with_reducible assumption) | assumption)); (obtain ⟨ad193, e193, hx193_0⟩ := Kd.at_string HR0.out x4_1 p193 q193); (have hw193_0 := hx193_0); (obtain rfl : ad191 = ad193 := (by injection e193)); (replace hx193_0 := (HB.out.cell (World.block_lt_of_cell? w _ hx193_0)).trans hx193_0); (replace p193 := eq_true p193); (replace q193 := eq_true q193); (refine start_ (n := 14) (S := fun w' => w'.cell? (ad191.add (x4_1).toNat) = some (.string (rdOf ByteArray.empty l0 x4_1)) ∧ w'.cell? (ad191.add (x4_1).toNat) = some (.string (rdOf ByteArray.empty l0 x4_1))) (ds := []) #[false, false, false, false, false, false, false, false, false, false, false, false, false, false] (by kernel_rfl) rfl rfl ⟨((HB.out.cell (World.block_lt_of_cell? w _ hw191_0)).trans hw191_0), ((HB.out.cell (World.block_lt_of_cell? w _ hw193_0)).trans hw193_0)⟩ (fun hHeld => ?_); refine with_tabW catchmentref03_Texts.tab5 catchmentref03_Texts.bits5 (fun HT_ HW_ => ?_)); (generalize wr.drew = w7 at HB hx191_0 hx193_0 hHeld ⊢); (refine pu_ (i := 0) (N := some 11) (v := ?_) (a' := ?_) HT_.out rfl rfl (.inl ⟨by rfl, ?_⟩) ?_ ?_; rotate_left)
              · intro w'; go_simp; with_reducible rfl
              rotate_left
              · simp only [pt_, pn_, sz_, ss_, i64_w, i32_w]; rfl
              refine pu_ (i := 1) (N := some 12) (v := ?_) (a' := ?_) HT_.out rfl rfl (.inl ⟨by rfl, ?_⟩) ?_ ?_; rotate_left
              · intro w'; go_simp; with_reducible rfl
              rotate_left
              · simp only [pt_, pn_, sz_, ss_, i64_w, i32_w]; rfl
              refine pu_ (i := 2) (N := some 13) (v := ?_) (a' := ?_) HT_.out rfl rfl (.inl ⟨by rfl, ?_⟩) ?_ ?_; rotate_left
              · intro w'; go_simp; with_reducible rfl
              rotate_left
              · simp only [pt_, pn_, sz_, ss_, i64_w, i32_w]; rfl
              refine pu_ (i := 3) (N := some 14) (v := ?_) (a' := ?_) HT_.out rfl rfl (.inl ⟨by rfl, ?_⟩) ?_ ?_; rotate_left
              · intro w'; go_simp; with_reducible rfl
              rotate_left
              · simp only [pt_, pn_, sz_, ss_, i64_w, i32_w]; rfl
              refine pu_ (i := 8) (N := some 19) (v := ?_) (a' := ?_) HT_.out rfl rfl (.inl ⟨by rfl, ?_⟩) ?_ ?_; rotate_left
              · intro w'; go_simp; with_reducible rfl
              rotate_left
              · simp only [pt_, pn_, sz_, ss_, i64_w, i32_w]; rfl
              refine pu_ (i := 9) (N := some 20) (v := ?_) (a' := ?_) HT_.out rfl rfl (.inl ⟨by rfl, ?_⟩) ?_ ?_; rotate_left
              · intro w'; go_simp; with_reducible rfl
              rotate_left
              · simp only [pt_, pn_, sz_, ss_, i64_w, i32_w]; rfl
              refine pu_ (i := 10) (N := some 21) (v := ?_) (a' := ?_) HT_.out rfl rfl (.inl ⟨by rfl, ?_⟩) ?_ ?_; rotate_left
              · intro w'; go_simp; with_reducible rfl
              rotate_left
              · simp only [pt_, pn_, sz_, ss_, i64_w, i32_w]; rfl
              refine ta_ (i := 4) (N := some 15) (v := ?_) (a' := ?_) HT_.out HW_.out rfl rfl (.inl ⟨by rfl, ?_⟩) hHeld ?_ ?_; rotate_left
              · rintro w' ⟨s0, s1⟩; go_simp; with_reducible rfl
              rotate_left
              · simp only [pt_, pn_, sz_, ss_, i64_w, i32_w]; rfl
              refine pu_ (i := 5) (N := some 16) (v := ?_) (a' := ?_) HT_.out rfl rfl (.inl ⟨by rfl, ?_⟩) ?_ ?_; rotate_left
              · intro w'; go_simp; with_reducible rfl
              rotate_left
              · simp only [pt_, pn_, sz_, ss_, i64_w, i32_w]; rfl
              refine ta_ (i := 11) (N := some 22) (v := ?_) (a' := ?_) HT_.out HW_.out rfl rfl (.inl ⟨by rfl, ?_⟩) hHeld ?_ ?_; rotate_left
              · rintro w' ⟨s0, s1⟩; go_simp; with_reducible rfl
              rotate_left
              · simp only [pt_, pn_, sz_, ss_, i64_w, i32_w]; rfl
              (refine one_ (i := 6) (N := some 17) #[true, true, true, true, true, true, true, false, true, true, true, true, false, false] rfl rfl (one_of HT_.out (by kernel_rfl)) (by decide) (fun K hK => ?_)); (refine goes_ Try.func85 (by kernel_rfl) rfl #[.int .i64 ((rdOf ByteArray.empty l0 x4_1).size : Int)] (by rfl) rfl rfl (by (try simp only [List.map_toArray, List.map_cons, List.map_nil]); first | done | rfl | (simp only [List.length_drop, List.length_take]; rfl)) ?_); (with_reducible refine (catchmentref03_Num.calls k1 ((rdOf ByteArray.empty l0 x4_1).size : Int) t192 _ A4.out).mono ?_); (rintro e w8 ⟨rfl, hb⟩); (refine ⟨_, rfl, ?_⟩); (have n0_ := Aside0.mk (below_step (by repeat (first | (with_reducible first | exact HB.out | apply y1_ | apply y2_ | apply y3_) | exact HB.out)) hb)); (clear HB); (have HB := n0_); (clear n0_); ((try clear hb)); ((try clear hb2)); ((try clear hk)); ((try clear hi)); (refine hK.out _ _ ⟨((HB.out.cell (World.block_lt_of_cell? w _ hw191_0)).trans hw191_0), ((HB.out.cell (World.block_lt_of_cell? w _ hw193_0)).trans hw193_0)⟩ (fun hHeld => ?_)); (clear hK K); (refine norm_ (a' := ?_) ?_ ?_)
              rotate_left
              · show Act.put _ (some 17) _ = _
                (simp only [pt_, pn_, sz_, ss_, i64_w, i32_w]); (rfl)
              refine pu_ (i := 7) (N := some 18) (v := ?_) (a' := ?_) HT_.out rfl rfl (.inl ⟨by rfl, ?_⟩) ?_ ?_; rotate_left
              · intro w'; go_simp; with_reducible rfl
              rotate_left
              · simp only [pt_, pn_, sz_, ss_, i64_w, i32_w]; rfl
              refine pu_ (i := 12) (N := some 23) (v := ?_) (a' := ?_) HT_.out rfl rfl (.inl ⟨by rfl, ?_⟩) ?_ ?_; rotate_left
              · intro w'; go_simp; with_reducible rfl
              rotate_left
              · simp only [pt_, pn_, sz_, ss_, i64_w, i32_w]; rfl
              refine pu_ (i := 13) (N := some 3) (v := ?_) (a' := ?_) HT_.out rfl rfl (.inl ⟨by rfl, ?_⟩) ?_ ?_; rotate_left
              · intro w'; go_simp; with_reducible rfl
              rotate_left
              · simp only [pt_, pn_, sz_, ss_, i64_w, i32_w]; rfl
              (refine done_ (done_of HT_.out (by kernel_rfl)) ?_); (try go_wp2); (go_roundg k1)
              case measure => have := HK1.out; omega
              case rel => exact ⟨((x3_1 ++ t192) ++ (rdOf ByteArray.empty l0 x4_1)), (wrap64 (x4_1 + 1)), (by first | rfl | (simp; done) | (simp [*]; done)), (by first | rfl | (simp; done) | (simp [*]; done)), H', ⟨by have := HK1.out; omega⟩, ⟨by repeat (first | (with_reducible first | exact HB.out | apply y1_ | apply y2_ | apply y3_) | exact HB.out)⟩⟩
            · rw [if_neg c6] at H
              exact absurd H (by simp)
          · rw [if_neg c5] at H
            exact absurd H (by simp)
        · rw [if_neg c3] at H
          exact absurd H (by simp)
      · rw [if_neg c2] at H
        (have c2b0 : decide (x4_1 < (l0.length : Int)) = false := decide_eq_false c2); (clear c2); (obtain rfl := Option.some.inj H); (go_wp2); (go_ret); (exact ⟨by first | rfl | (simp [errW_none, errW_some] <;> rfl) | (simp [*, errW_none, errW_some] <;> rfl), by repeat (first | (with_reducible first | exact HB.out | apply y1_ | apply y2_ | apply y3_) | exact HB.out)⟩)

end Go.Proofs.Ytnklnjghecmihaa.H6
