-- written by a program of this session (wip/myprint.py), over the kit's printer and the session's own contracts
import Derived.Test.YtnklnjghecmihaaH4x0
import Derived.Test.YtnklnjghecmihaaH4x21
import Derived.Test.YtnklnjghecmihaaH4P1
import Derived.Test.YtnklnjghecmihaaH4x29
import Derived.Test.YtnklnjghecmihaaH4P0
import Derived.Test.YtnklnjghecmihaaH4x31
import Derived.Test.YtnklnjghecmihaaH4x45
import Derived.Test.YtnklnjghecmihaaH4x52
import Derived.Test.YtnklnjghecmihaaH4x53
import Derived.Test.YtnklnjghecmihaaH4x58
import Derived.Test.YtnklnjghecmihaaH4x59
import Derived.Test.YtnklnjghecmihaaH4x68
namespace Go.Proofs.Ytnklnjghecmihaa.H4
open Go.RowKit Go.Proofs.YtnklnjghecmihaaW.PrintWords Go.Proofs.YtnklnjghecmihaaW.PrintLast Go.Proofs.YtnklnjghecmihaaW.PrintMore Go.Proofs.YtnklnjghecmihaaW.Mine
attribute [local go_sem] max2_int min2_int max_two min_two max_three min_three max_four min_four max2_str min2_str binOp_gtr_str binOp_leq_str binOp_geq_str   -- for this text's walks alone
set_option linter.unusedVariables false
set_option linter.unusedSimpArgs false

/-! ### catchmentlaw10_BlockDoes: function 13 -/
def catchmentlaw10_BlockDoes.f (k : Nat) (l0 : List (S25)) (a1_0 : ByteArray) (a1_1 : ByteArray) (a2_0 : ByteArray) (a2_1 : ByteArray) (a3_0 : Int) (a3_1 : Int) (a3_2 : ByteArray) (a3_3 : ByteArray) (a3_4 : ByteArray) (a3_5 : Int) : Option (Bool) := if 0 ≤ (mn (l0.length : Int) 40) then (if (mn (l0.length : Int) 40) ≤ (l0.length : Int) then ((some (l0.take ((mn (l0.length : Int) 40) : Int).toNat : List (S25))).bind fun y343 => ((catchmentref05_Rises.f k y343).bind fun t347 => (if t347 = true then ((block_Place.f k y343 a1_0).bind fun bt349 => ((catchmentref10_Place.f k y343 a1_0).bind fun bt351 => ((catchmentref05_Entries.f k (([(⟨2, 0, a1_0, (⟨#[]⟩ : ByteArray), (⟨#[]⟩ : ByteArray), 0⟩ : S46)] : List (S46))) y343 (⟨#[]⟩ : ByteArray) (⟨#[]⟩ : ByteArray)).bind fun t356 => ((catchmentlaw10_live.f k).bind fun t359 => (if t359 = true then (if bt349.1 = bt351.1 then (if (bt349.2 == bt351.2) = true then ((block_Put.f k y343 a1_0 a1_1).bind fun t360 => ((catchmentref10_Put.f k y343 a1_0 a1_1).bind fun t363 => ((catchmentref05_Same.f k t360 t363).bind fun t366 => (if t366 = true then ((block_Drop.f k y343 a1_0).bind fun t367 => ((catchmentref05_Same.f k t367 t356).bind fun t370 => (if t370 = true then ((block_Cut.f k y343 a2_0 a2_1).bind fun t371 => ((catchmentref10_Cut.f k y343 a2_0 a2_1).bind fun t374 => ((catchmentref05_Same.f k t371 t374).bind fun t377 => (if t377 = true then ((block_Apply.f k y343 a3_0 a3_1 a3_2 a3_3 a3_4 a3_5).bind fun t378 => ((catchmentref05_Entries.f k (([(⟨a3_0, a3_1, a3_2, a3_3, a3_4, a3_5⟩ : S46)] : List (S46))) y343 (⟨#[]⟩ : ByteArray) (⟨#[]⟩ : ByteArray)).bind fun t384 => ((catchmentref05_Same.f k t378 t384).bind fun t387 => (some t387)))) else (none))))) else (none)))) else (none))))) else (none)) else (none)) else (none)))))) else ((catchmentlaw10_live.f k).bind fun t348 => (some t348))))) else (none)) else (none)
theorem catchmentlaw10_BlockDoes.mono : ∀ a0 a1 a2 a3 a4 a5 a6 a7 a8 a9 a10 k, LeO (catchmentlaw10_BlockDoes.f k a0 a1 a2 a3 a4 a5 a6 a7 a8 a9 a10) (catchmentlaw10_BlockDoes.f (k + 1) a0 a1 a2 a3 a4 a5 a6 a7 a8 a9 a10) := by
  intro a0 a1 a2 a3 a4 a5 a6 a7 a8 a9 a10 k
  unfold catchmentlaw10_BlockDoes.f
  repeat' first
      | (with_reducible exact block_Apply.mono _ _ _ _ _ _ _ _)
      | (with_reducible exact block_Cut.mono _ _ _ _)
      | (with_reducible exact block_Drop.mono _ _ _)
      | (with_reducible exact block_Place.mono _ _ _)
      | (with_reducible exact block_Put.mono _ _ _ _)
      | (with_reducible exact catchmentlaw10_live.mono _)
      | (with_reducible exact catchmentref05_Entries.mono _ _ _ _ _)
      | (with_reducible exact catchmentref05_Rises.mono _ _)
      | (with_reducible exact catchmentref05_Same.mono _ _ _)
      | (with_reducible exact catchmentref10_Cut.mono _ _ _ _)
      | (with_reducible exact catchmentref10_Place.mono _ _ _)
      | (with_reducible exact catchmentref10_Put.mono _ _ _ _)
      | (with_reducible exact LeO.refl _)
      | (with_reducible exact LeO.none _)
      | (with_reducible refine LeO.ite ?_ ?_)
      | (with_reducible refine LeO.bind ?_ (fun _ => ?_))
      | exact block_Apply.mono _ _ _ _ _ _ _ _
      | exact block_Cut.mono _ _ _ _
      | exact block_Drop.mono _ _ _
      | exact block_Place.mono _ _ _
      | exact block_Put.mono _ _ _ _
      | exact catchmentlaw10_live.mono _
      | exact catchmentref05_Entries.mono _ _ _ _ _
      | exact catchmentref05_Rises.mono _ _
      | exact catchmentref05_Same.mono _ _ _
      | exact catchmentref10_Cut.mono _ _ _ _
      | exact catchmentref10_Place.mono _ _ _
      | exact catchmentref10_Put.mono _ _ _ _
      | exact LeO.none _
      | refine LeO.ite ?_ ?_
      | refine LeO.bind ?_ (fun _ => ?_)
def catchmentlaw10_BlockDoes.T7 : Bool × List (List Nat × List Nat) := (true, [([], []), ([0, 0], [0]), ([1], [1]), ([1], [1]), ([2, 3, 1], [1, 2, 3]), ([1, 4], [1, 4]), ([5, 1], [5]), ([6], [6]), ([6], [6]), ([7, 8, 6], [6, 7, 8]), ([6, 9], [6, 9]), ([10, 6], [10]), ([11], [11]), ([11], [11]), ([12, 13, 11, 11], [11, 12, 13]), ([11], [11]), ([11], [11]), ([15, 16, 14, 11], [11, 15, 16]), ([14, 17, 17, 11], [11, 14, 17]), ([11, 18], [11, 18]), ([19, 18], [19]), ([20], [20]), ([20], [20]), ([22, 20], [20, 22]), ([21, 23, 20, 20], [20, 21, 23]), ([20], [20]), ([24, 25, 24, 20], [20, 24, 25]), ([20, 26], [20, 26]), ([27, 26], [27]), ([28], [28]), ([28], [28]), ([29, 30, 28, 28], [28, 29, 30]), ([28], [28]), ([28], [28]), ([32, 33, 31, 28], [28, 32, 33]), ([31, 34, 34, 28], [28, 31, 34]), ([28, 35], [28, 35]), ([36, 35], [36]), ([37], [37]), ([37], [37]), ([38, 39, 37, 37], [37, 38, 39]), ([37], [37]), ([41, 37], [37, 41]), ([37], [37]), ([37], [37]), ([42, 43, 44, 40, 37], [37, 42, 43, 44]), ([40, 45, 45, 37], [37, 40, 45]), ([37, 46], [37, 46]), ([47, 46, 0, 1, 2, 3, 4, 5, 6, 7, 8, 9, 10, 11, 12, 13, 14, 15, 16, 17, 18, 19, 20, 21, 22, 23, 24, 25, 26, 27, 28, 29, 30, 31, 32, 33, 34, 35, 36, 37, 38, 39, 40, 41, 42, 43, 44, 45, 46, 47], [47])])
def catchmentlaw10_BlockDoes.B7 : List Nat := [0, 1, 3, 3, 15, 31, 63, 127, 127, 511, 1023, 2047, 4095, 4095, 16383, 4095, 4095, 131071, 262143, 524287, 1048575, 2097151, 2097151, 6291455, 16777215, 2097151, 67108863, 134217727, 268435455, 536870911, 536870911, 2147483647, 536870911, 536870911, 17179869183, 34359738367, 68719476735, 137438953471, 274877906943, 274877906943, 1099511627775, 274877906943, 2473901162495, 274877906943, 274877906943, 35184372088831, 70368744177663, 140737488355327, 281474976710655]
theorem catchmentlaw10_BlockDoes.tab7 : rtab .any (opsOf Try.f13 7) = catchmentlaw10_BlockDoes.T7 := by kernel_rfl
theorem catchmentlaw10_BlockDoes.bits7 : waitsOk catchmentlaw10_BlockDoes.T7.2 catchmentlaw10_BlockDoes.B7 = true := by kernel_rfl
set_option maxRecDepth 100000 in
set_option maxHeartbeats 4000000 in
theorem catchmentlaw10_BlockDoes_few_read (A0 : Option Addr) (c0 : Nat) (l0 : List (S25)) (hl : l0.length ≤ c0) (w : World) : Calls Try.prog 15 #[.slice A0 l0.length c0] w fun e w' => e = .returned (.slice A0 (l0.take (mn (l0.length : Int) 40).toNat).length c0) ∧ w' = w := by
  obtain ⟨j, hj⟩ : ∃ j, mn (l0.length : Int) 40 = j := ⟨_, rfl⟩
  have h1 : 0 ≤ j := by rw [← hj]; unfold mn; split <;> omega
  have h2 : j ≤ (l0.length : Int) := by rw [← hj]; unfold mn; split <;> omega
  rw [hj]
  have hj_ : (if 40 < (l0.length : Int) then 40 else (l0.length : Int)) = j := hj
  have hjn : (if 40 < l0.length then (40 : Int) else (l0.length : Int)) = j := by rw [← hj]; unfold mn; (repeat' split) <;> omega
  obtain ⟨i06, hi06, _, hsz6, _⟩ := info_parts info25
  have hcut6 := cut_to (P := Try.prog) 22 25 .i64 Try.underlying22 hi06 A0 l0.length c0 j h1 h2 hl
  clear hi06 hsz6 hj
  have hl2 : (l0.take j.toNat).length = j.toNat := by rw [List.length_take]; omega
  go_enter Try.func15, Try.ntmps15
  go_wp2
  all_goals (go_ret; refine ⟨?_, rfl⟩; rw [hl2]; rfl)
set_option maxHeartbeats 8000000 in
set_option maxRecDepth 100000 in
theorem catchmentlaw10_BlockDoes.calls (k : Nat) (A0 : Option Addr) (c0 : Nat) (l0 : List (S25)) (a1_0 : ByteArray) (a1_1 : ByteArray) (a2_0 : ByteArray) (a2_1 : ByteArray) (a3_0 : Int) (a3_1 : Int) (a3_2 : ByteArray) (a3_3 : ByteArray) (a3_4 : ByteArray) (a3_5 : Int) (r : Bool) (w : World) (hr0 : Kd.C k25 w A0 l0.length l0) (hc0 : l0.length ≤ c0) (h : catchmentlaw10_BlockDoes.f k l0 a1_0 a1_1 a2_0 a2_1 a3_0 a3_1 a3_2 a3_3 a3_4 a3_5 = some r) :
    Calls Try.prog 13 #[.slice A0 l0.length c0, .agg #[.string a1_0, .string a1_1], .agg #[.string a2_0, .string a2_1], .agg #[.int .u8 a3_0, .int .i64 a3_1, .string a3_2, .string a3_3, .string a3_4, .int .u64 a3_5]] w fun e w' => e = .returned (.bool r) ∧ Below w.heap.size w w' := by
  have hu25 := Try.underlying25
  have hu48 := Try.underlying48
  have hu46 := Try.underlying46
  have HR0 := Aside0.mk hr0
  have HC0 := Aside0.mk hc0
  clear hr0 hc0
  have HB := Aside0.mk (Below.refl w.heap.size w)
  have H : (if 0 ≤ (mn (l0.length : Int) 40) then (if (mn (l0.length : Int) 40) ≤ (l0.length : Int) then ((some (l0.take ((mn (l0.length : Int) 40) : Int).toNat : List (S25))).bind fun y343 => ((catchmentref05_Rises.f k y343).bind fun t347 => (if t347 = true then ((block_Place.f k y343 a1_0).bind fun bt349 => ((catchmentref10_Place.f k y343 a1_0).bind fun bt351 => ((catchmentref05_Entries.f k (([(⟨2, 0, a1_0, (⟨#[]⟩ : ByteArray), (⟨#[]⟩ : ByteArray), 0⟩ : S46)] : List (S46))) y343 (⟨#[]⟩ : ByteArray) (⟨#[]⟩ : ByteArray)).bind fun t356 => ((catchmentlaw10_live.f k).bind fun t359 => (if t359 = true then (if bt349.1 = bt351.1 then (if (bt349.2 == bt351.2) = true then ((block_Put.f k y343 a1_0 a1_1).bind fun t360 => ((catchmentref10_Put.f k y343 a1_0 a1_1).bind fun t363 => ((catchmentref05_Same.f k t360 t363).bind fun t366 => (if t366 = true then ((block_Drop.f k y343 a1_0).bind fun t367 => ((catchmentref05_Same.f k t367 t356).bind fun t370 => (if t370 = true then ((block_Cut.f k y343 a2_0 a2_1).bind fun t371 => ((catchmentref10_Cut.f k y343 a2_0 a2_1).bind fun t374 => ((catchmentref05_Same.f k t371 t374).bind fun t377 => (if t377 = true then ((block_Apply.f k y343 a3_0 a3_1 a3_2 a3_3 a3_4 a3_5).bind fun t378 => ((catchmentref05_Entries.f k (([(⟨a3_0, a3_1, a3_2, a3_3, a3_4, a3_5⟩ : S46)] : List (S46))) y343 (⟨#[]⟩ : ByteArray) (⟨#[]⟩ : ByteArray)).bind fun t384 => ((catchmentref05_Same.f k t378 t384).bind fun t387 => (some t387)))) else (none))))) else (none)))) else (none))))) else (none)) else (none)) else (none)))))) else ((catchmentlaw10_live.f k).bind fun t348 => (some t348))))) else (none)) else (none)) = some r := h
  clear h
  obtain ⟨ji5, hji5⟩ : ∃ j_ : Int, (mn (l0.length : Int) 40) = j_ := ⟨_, rfl⟩
  replace H : (if 0 ≤ (ji5) then (if (ji5) ≤ (l0.length : Int) then ((some (l0.take ((ji5) : Int).toNat : List (S25))).bind fun y343 => ((catchmentref05_Rises.f k y343).bind fun t347 => (if t347 = true then ((block_Place.f k y343 a1_0).bind fun bt349 => ((catchmentref10_Place.f k y343 a1_0).bind fun bt351 => ((catchmentref05_Entries.f k (([(⟨2, 0, a1_0, (⟨#[]⟩ : ByteArray), (⟨#[]⟩ : ByteArray), 0⟩ : S46)] : List (S46))) y343 (⟨#[]⟩ : ByteArray) (⟨#[]⟩ : ByteArray)).bind fun t356 => ((catchmentlaw10_live.f k).bind fun t359 => (if t359 = true then (if bt349.1 = bt351.1 then (if (bt349.2 == bt351.2) = true then ((block_Put.f k y343 a1_0 a1_1).bind fun t360 => ((catchmentref10_Put.f k y343 a1_0 a1_1).bind fun t363 => ((catchmentref05_Same.f k t360 t363).bind fun t366 => (if t366 = true then ((block_Drop.f k y343 a1_0).bind fun t367 => ((catchmentref05_Same.f k t367 t356).bind fun t370 => (if t370 = true then ((block_Cut.f k y343 a2_0 a2_1).bind fun t371 => ((catchmentref10_Cut.f k y343 a2_0 a2_1).bind fun t374 => ((catchmentref05_Same.f k t371 t374).bind fun t377 => (if t377 = true then ((block_Apply.f k y343 a3_0 a3_1 a3_2 a3_3 a3_4 a3_5).bind fun t378 => ((catchmentref05_Entries.f k (([(⟨a3_0, a3_1, a3_2, a3_3, a3_4, a3_5⟩ : S46)] : List (S46))) y343 (⟨#[]⟩ : ByteArray) (⟨#[]⟩ : ByteArray)).bind fun t384 => ((catchmentref05_Same.f k t378 t384).bind fun t387 => (some t387)))) else (none))))) else (none)))) else (none))))) else (none)) else (none)) else (none)))))) else ((catchmentlaw10_live.f k).bind fun t348 => (some t348))))) else (none)) else (none)) = some r := by first | (rw [hji5] at H; exact H) | (simp only [hji5] at H ⊢; exact H)
  (try (have hji5h : ji5 ≤ 40 := by (rw [← hji5]; unfold mn; (repeat' split) <;> omega)))
  (try (have hji5g : ji5 ≤ 64 := by omega))
  (try (have hji5l : 0 ≤ ji5 := by (rw [← hji5]; unfold mn; (repeat' split) <;> omega)))
  (try (have hji5m : 0 ≤ ji5 := by omega))
  have hji5_ : (if 40 < (l0.length : Int) then 40 else (l0.length : Int)) = ji5 := hji5
  (try (have hji5n : (if 40 < l0.length then (40 : Int) else (l0.length : Int)) = ji5 := by (rw [← hji5]; unfold mn; (repeat' split) <;> omega)))
  by_cases c6 : 0 ≤ (ji5)
  · rw [if_pos c6] at H
    have c6b0 := eq_true c6
    have c6b1 : decide (0 ≤ (ji5)) = true := decide_eq_true c6
    clear c6
    by_cases c7 : (ji5) ≤ (l0.length : Int)
    · rw [if_pos c7] at H
      have c7b0 := eq_true c7
      have c7b1 : decide ((ji5) ≤ (l0.length : Int)) = true := decide_eq_true c7
      clear c7
      obtain ⟨y343, hy343⟩ : ∃ y_ : List (S25), y_ = (l0.take ((ji5) : Int).toNat) := ⟨_, rfl⟩
      replace H : ((catchmentref05_Rises.f k y343).bind fun t347 => (if t347 = true then ((block_Place.f k y343 a1_0).bind fun bt349 => ((catchmentref10_Place.f k y343 a1_0).bind fun bt351 => ((catchmentref05_Entries.f k (([(⟨2, 0, a1_0, (⟨#[]⟩ : ByteArray), (⟨#[]⟩ : ByteArray), 0⟩ : S46)] : List (S46))) y343 (⟨#[]⟩ : ByteArray) (⟨#[]⟩ : ByteArray)).bind fun t356 => ((catchmentlaw10_live.f k).bind fun t359 => (if t359 = true then (if bt349.1 = bt351.1 then (if (bt349.2 == bt351.2) = true then ((block_Put.f k y343 a1_0 a1_1).bind fun t360 => ((catchmentref10_Put.f k y343 a1_0 a1_1).bind fun t363 => ((catchmentref05_Same.f k t360 t363).bind fun t366 => (if t366 = true then ((block_Drop.f k y343 a1_0).bind fun t367 => ((catchmentref05_Same.f k t367 t356).bind fun t370 => (if t370 = true then ((block_Cut.f k y343 a2_0 a2_1).bind fun t371 => ((catchmentref10_Cut.f k y343 a2_0 a2_1).bind fun t374 => ((catchmentref05_Same.f k t371 t374).bind fun t377 => (if t377 = true then ((block_Apply.f k y343 a3_0 a3_1 a3_2 a3_3 a3_4 a3_5).bind fun t378 => ((catchmentref05_Entries.f k (([(⟨a3_0, a3_1, a3_2, a3_3, a3_4, a3_5⟩ : S46)] : List (S46))) y343 (⟨#[]⟩ : ByteArray) (⟨#[]⟩ : ByteArray)).bind fun t384 => ((catchmentref05_Same.f k t378 t384).bind fun t387 => (some t387)))) else (none))))) else (none)))) else (none))))) else (none)) else (none)) else (none)))))) else ((catchmentlaw10_live.f k).bind fun t348 => (some t348)))) = some r := by first | (rw [hy343]; with_reducible exact H) | (have H2_ := (Option.bind_some _ _).symm.trans H; rw [hy343]; with_reducible exact H2_) | (have H2_ := (Option.bind_some _ _).symm.trans H; with_reducible exact H2_) | with_reducible exact H | (rw [hy343]; exact H) | exact H
      have Ny343 := Aside0.mk hy343
      clear hy343
      replace H := Option.bind_eq_some_iff.mp H
      obtain ⟨t347, A80, H⟩ := H
      replace H : (if t347 = true then ((block_Place.f k y343 a1_0).bind fun bt349 => ((catchmentref10_Place.f k y343 a1_0).bind fun bt351 => ((catchmentref05_Entries.f k (([(⟨2, 0, a1_0, (⟨#[]⟩ : ByteArray), (⟨#[]⟩ : ByteArray), 0⟩ : S46)] : List (S46))) y343 (⟨#[]⟩ : ByteArray) (⟨#[]⟩ : ByteArray)).bind fun t356 => ((catchmentlaw10_live.f k).bind fun t359 => (if t359 = true then (if bt349.1 = bt351.1 then (if (bt349.2 == bt351.2) = true then ((block_Put.f k y343 a1_0 a1_1).bind fun t360 => ((catchmentref10_Put.f k y343 a1_0 a1_1).bind fun t363 => ((catchmentref05_Same.f k t360 t363).bind fun t366 => (if t366 = true then ((block_Drop.f k y343 a1_0).bind fun t367 => ((catchmentref05_Same.f k t367 t356).bind fun t370 => (if t370 = true then ((block_Cut.f k y343 a2_0 a2_1).bind fun t371 => ((catchmentref10_Cut.f k y343 a2_0 a2_1).bind fun t374 => ((catchmentref05_Same.f k t371 t374).bind fun t377 => (if t377 = true then ((block_Apply.f k y343 a3_0 a3_1 a3_2 a3_3 a3_4 a3_5).bind fun t378 => ((catchmentref05_Entries.f k (([(⟨a3_0, a3_1, a3_2, a3_3, a3_4, a3_5⟩ : S46)] : List (S46))) y343 (⟨#[]⟩ : ByteArray) (⟨#[]⟩ : ByteArray)).bind fun t384 => ((catchmentref05_Same.f k t378 t384).bind fun t387 => (some t387)))) else (none))))) else (none)))) else (none))))) else (none)) else (none)) else (none)))))) else ((catchmentlaw10_live.f k).bind fun t348 => (some t348))) = some r := H
      have A8 := Aside0.mk A80
      clear A80
      by_cases c9 : t347 = true
      · subst c9
        have H1 : ((block_Place.f k y343 a1_0).bind fun bt349 => ((catchmentref10_Place.f k y343 a1_0).bind fun bt351 => ((catchmentref05_Entries.f k (([(⟨2, 0, a1_0, (⟨#[]⟩ : ByteArray), (⟨#[]⟩ : ByteArray), 0⟩ : S46)] : List (S46))) y343 (⟨#[]⟩ : ByteArray) (⟨#[]⟩ : ByteArray)).bind fun t356 => ((catchmentlaw10_live.f k).bind fun t359 => (if t359 = true then (if bt349.1 = bt351.1 then (if (bt349.2 == bt351.2) = true then ((block_Put.f k y343 a1_0 a1_1).bind fun t360 => ((catchmentref10_Put.f k y343 a1_0 a1_1).bind fun t363 => ((catchmentref05_Same.f k t360 t363).bind fun t366 => (if t366 = true then ((block_Drop.f k y343 a1_0).bind fun t367 => ((catchmentref05_Same.f k t367 t356).bind fun t370 => (if t370 = true then ((block_Cut.f k y343 a2_0 a2_1).bind fun t371 => ((catchmentref10_Cut.f k y343 a2_0 a2_1).bind fun t374 => ((catchmentref05_Same.f k t371 t374).bind fun t377 => (if t377 = true then ((block_Apply.f k y343 a3_0 a3_1 a3_2 a3_3 a3_4 a3_5).bind fun t378 => ((catchmentref05_Entries.f k (([(⟨a3_0, a3_1, a3_2, a3_3, a3_4, a3_5⟩ : S46)] : List (S46))) y343 (⟨#[]⟩ : ByteArray) (⟨#[]⟩ : ByteArray)).bind fun t384 => ((catchmentref05_Same.f k t378 t384).bind fun t387 => (some t387)))) else (none))))) else (none)))) else (none))))) else (none)) else (none)) else (none)))))) = some r := by rw [if_pos rfl] at H; exact H
        clear H
        have H := H1
        clear H1
        replace H := Option.bind_eq_some_iff.mp H
        obtain ⟨⟨t349, t350⟩, A100, H⟩ := H
        replace H : ((catchmentref10_Place.f k y343 a1_0).bind fun bt351 => ((catchmentref05_Entries.f k (([(⟨2, 0, a1_0, (⟨#[]⟩ : ByteArray), (⟨#[]⟩ : ByteArray), 0⟩ : S46)] : List (S46))) y343 (⟨#[]⟩ : ByteArray) (⟨#[]⟩ : ByteArray)).bind fun t356 => ((catchmentlaw10_live.f k).bind fun t359 => (if t359 = true then (if t349 = bt351.1 then (if (t350 == bt351.2) = true then ((block_Put.f k y343 a1_0 a1_1).bind fun t360 => ((catchmentref10_Put.f k y343 a1_0 a1_1).bind fun t363 => ((catchmentref05_Same.f k t360 t363).bind fun t366 => (if t366 = true then ((block_Drop.f k y343 a1_0).bind fun t367 => ((catchmentref05_Same.f k t367 t356).bind fun t370 => (if t370 = true then ((block_Cut.f k y343 a2_0 a2_1).bind fun t371 => ((catchmentref10_Cut.f k y343 a2_0 a2_1).bind fun t374 => ((catchmentref05_Same.f k t371 t374).bind fun t377 => (if t377 = true then ((block_Apply.f k y343 a3_0 a3_1 a3_2 a3_3 a3_4 a3_5).bind fun t378 => ((catchmentref05_Entries.f k (([(⟨a3_0, a3_1, a3_2, a3_3, a3_4, a3_5⟩ : S46)] : List (S46))) y343 (⟨#[]⟩ : ByteArray) (⟨#[]⟩ : ByteArray)).bind fun t384 => ((catchmentref05_Same.f k t378 t384).bind fun t387 => (some t387)))) else (none))))) else (none)))) else (none))))) else (none)) else (none)) else (none))))) = some r := H
        have A10 := Aside0.mk A100
        clear A100
        replace H := Option.bind_eq_some_iff.mp H
        obtain ⟨⟨t351, t352⟩, A110, H⟩ := H
        replace H : ((catchmentref05_Entries.f k (([(⟨2, 0, a1_0, (⟨#[]⟩ : ByteArray), (⟨#[]⟩ : ByteArray), 0⟩ : S46)] : List (S46))) y343 (⟨#[]⟩ : ByteArray) (⟨#[]⟩ : ByteArray)).bind fun t356 => ((catchmentlaw10_live.f k).bind fun t359 => (if t359 = true then (if t349 = t351 then (if (t350 == t352) = true then ((block_Put.f k y343 a1_0 a1_1).bind fun t360 => ((catchmentref10_Put.f k y343 a1_0 a1_1).bind fun t363 => ((catchmentref05_Same.f k t360 t363).bind fun t366 => (if t366 = true then ((block_Drop.f k y343 a1_0).bind fun t367 => ((catchmentref05_Same.f k t367 t356).bind fun t370 => (if t370 = true then ((block_Cut.f k y343 a2_0 a2_1).bind fun t371 => ((catchmentref10_Cut.f k y343 a2_0 a2_1).bind fun t374 => ((catchmentref05_Same.f k t371 t374).bind fun t377 => (if t377 = true then ((block_Apply.f k y343 a3_0 a3_1 a3_2 a3_3 a3_4 a3_5).bind fun t378 => ((catchmentref05_Entries.f k (([(⟨a3_0, a3_1, a3_2, a3_3, a3_4, a3_5⟩ : S46)] : List (S46))) y343 (⟨#[]⟩ : ByteArray) (⟨#[]⟩ : ByteArray)).bind fun t384 => ((catchmentref05_Same.f k t378 t384).bind fun t387 => (some t387)))) else (none))))) else (none)))) else (none))))) else (none)) else (none)) else (none)))) = some r := H
        have A11 := Aside0.mk A110
        clear A110
        obtain ⟨y353, hy353⟩ : ∃ y_ : List (S46), y_ = (([(⟨2, 0, a1_0, (⟨#[]⟩ : ByteArray), (⟨#[]⟩ : ByteArray), 0⟩ : S46)] : List (S46))) := ⟨_, rfl⟩
        replace H : ((catchmentref05_Entries.f k y353 y343 (⟨#[]⟩ : ByteArray) (⟨#[]⟩ : ByteArray)).bind fun t356 => ((catchmentlaw10_live.f k).bind fun t359 => (if t359 = true then (if t349 = t351 then (if (t350 == t352) = true then ((block_Put.f k y343 a1_0 a1_1).bind fun t360 => ((catchmentref10_Put.f k y343 a1_0 a1_1).bind fun t363 => ((catchmentref05_Same.f k t360 t363).bind fun t366 => (if t366 = true then ((block_Drop.f k y343 a1_0).bind fun t367 => ((catchmentref05_Same.f k t367 t356).bind fun t370 => (if t370 = true then ((block_Cut.f k y343 a2_0 a2_1).bind fun t371 => ((catchmentref10_Cut.f k y343 a2_0 a2_1).bind fun t374 => ((catchmentref05_Same.f k t371 t374).bind fun t377 => (if t377 = true then ((block_Apply.f k y343 a3_0 a3_1 a3_2 a3_3 a3_4 a3_5).bind fun t378 => ((catchmentref05_Entries.f k (([(⟨a3_0, a3_1, a3_2, a3_3, a3_4, a3_5⟩ : S46)] : List (S46))) y343 (⟨#[]⟩ : ByteArray) (⟨#[]⟩ : ByteArray)).bind fun t384 => ((catchmentref05_Same.f k t378 t384).bind fun t387 => (some t387)))) else (none))))) else (none)))) else (none))))) else (none)) else (none)) else (none)))) = some r := by first | (rw [hy353]; with_reducible exact H) | (have H2_ := (Option.bind_some _ _).symm.trans H; rw [hy353]; with_reducible exact H2_) | (have H2_ := (Option.bind_some _ _).symm.trans H; with_reducible exact H2_) | with_reducible exact H | (rw [hy353]; exact H) | exact H
        have Ny353 := Aside0.mk hy353
        clear hy353
        replace H := Option.bind_eq_some_iff.mp H
        obtain ⟨t356, A120, H⟩ := H
        replace H : ((catchmentlaw10_live.f k).bind fun t359 => (if t359 = true then (if t349 = t351 then (if (t350 == t352) = true then ((block_Put.f k y343 a1_0 a1_1).bind fun t360 => ((catchmentref10_Put.f k y343 a1_0 a1_1).bind fun t363 => ((catchmentref05_Same.f k t360 t363).bind fun t366 => (if t366 = true then ((block_Drop.f k y343 a1_0).bind fun t367 => ((catchmentref05_Same.f k t367 t356).bind fun t370 => (if t370 = true then ((block_Cut.f k y343 a2_0 a2_1).bind fun t371 => ((catchmentref10_Cut.f k y343 a2_0 a2_1).bind fun t374 => ((catchmentref05_Same.f k t371 t374).bind fun t377 => (if t377 = true then ((block_Apply.f k y343 a3_0 a3_1 a3_2 a3_3 a3_4 a3_5).bind fun t378 => ((catchmentref05_Entries.f k (([(⟨a3_0, a3_1, a3_2, a3_3, a3_4, a3_5⟩ : S46)] : List (S46))) y343 (⟨#[]⟩ : ByteArray) (⟨#[]⟩ : ByteArray)).bind fun t384 => ((catchmentref05_Same.f k t378 t384).bind fun t387 => (some t387)))) else (none))))) else (none)))) else (none))))) else (none)) else (none)) else (none))) = some r := H
        have A12 := Aside0.mk A120
        clear A120
        replace H := Option.bind_eq_some_iff.mp H
        obtain ⟨t359, A130, H⟩ := H
        replace H : (if t359 = true then (if t349 = t351 then (if (t350 == t352) = true then ((block_Put.f k y343 a1_0 a1_1).bind fun t360 => ((catchmentref10_Put.f k y343 a1_0 a1_1).bind fun t363 => ((catchmentref05_Same.f k t360 t363).bind fun t366 => (if t366 = true then ((block_Drop.f k y343 a1_0).bind fun t367 => ((catchmentref05_Same.f k t367 t356).bind fun t370 => (if t370 = true then ((block_Cut.f k y343 a2_0 a2_1).bind fun t371 => ((catchmentref10_Cut.f k y343 a2_0 a2_1).bind fun t374 => ((catchmentref05_Same.f k t371 t374).bind fun t377 => (if t377 = true then ((block_Apply.f k y343 a3_0 a3_1 a3_2 a3_3 a3_4 a3_5).bind fun t378 => ((catchmentref05_Entries.f k (([(⟨a3_0, a3_1, a3_2, a3_3, a3_4, a3_5⟩ : S46)] : List (S46))) y343 (⟨#[]⟩ : ByteArray) (⟨#[]⟩ : ByteArray)).bind fun t384 => ((catchmentref05_Same.f k t378 t384).bind fun t387 => (some t387)))) else (none))))) else (none)))) else (none))))) else (none)) else (none)) else (none)) = some r := H
        have A13 := Aside0.mk A130
        clear A130
        by_cases c14 : t359 = true
        · subst c14
          have H1 : (if t349 = t351 then (if (t350 == t352) = true then ((block_Put.f k y343 a1_0 a1_1).bind fun t360 => ((catchmentref10_Put.f k y343 a1_0 a1_1).bind fun t363 => ((catchmentref05_Same.f k t360 t363).bind fun t366 => (if t366 = true then ((block_Drop.f k y343 a1_0).bind fun t367 => ((catchmentref05_Same.f k t367 t356).bind fun t370 => (if t370 = true then ((block_Cut.f k y343 a2_0 a2_1).bind fun t371 => ((catchmentref10_Cut.f k y343 a2_0 a2_1).bind fun t374 => ((catchmentref05_Same.f k t371 t374).bind fun t377 => (if t377 = true then ((block_Apply.f k y343 a3_0 a3_1 a3_2 a3_3 a3_4 a3_5).bind fun t378 => ((catchmentref05_Entries.f k (([(⟨a3_0, a3_1, a3_2, a3_3, a3_4, a3_5⟩ : S46)] : List (S46))) y343 (⟨#[]⟩ : ByteArray) (⟨#[]⟩ : ByteArray)).bind fun t384 => ((catchmentref05_Same.f k t378 t384).bind fun t387 => (some t387)))) else (none))))) else (none)))) else (none))))) else (none)) else (none)) = some r := by rw [if_pos rfl] at H; exact H
          clear H
          have H := H1
          clear H1
          by_cases c15 : t349 = t351
          · rw [if_pos c15] at H
            have c15b0 : (t349 == t351) = true := beq_iff_eq.mpr c15
            have c15b1 : (t349 != t351) = false := bne_eq_false_iff_eq.mpr c15
            clear c15
            by_cases c16 : (t350 == t352) = true
            · rw [if_pos c16] at H
              have c16b0 : (t350 == t352) = true := c16
              (try (have c16b1 : decide (t350 = t352) = true := by simpa using c16))
              (try (have c16b2 : (t350 == t352) = true := by simpa using c16))
              clear c16
              replace H := Option.bind_eq_some_iff.mp H
              obtain ⟨t360, A170, H⟩ := H
              replace H : ((catchmentref10_Put.f k y343 a1_0 a1_1).bind fun t363 => ((catchmentref05_Same.f k t360 t363).bind fun t366 => (if t366 = true then ((block_Drop.f k y343 a1_0).bind fun t367 => ((catchmentref05_Same.f k t367 t356).bind fun t370 => (if t370 = true then ((block_Cut.f k y343 a2_0 a2_1).bind fun t371 => ((catchmentref10_Cut.f k y343 a2_0 a2_1).bind fun t374 => ((catchmentref05_Same.f k t371 t374).bind fun t377 => (if t377 = true then ((block_Apply.f k y343 a3_0 a3_1 a3_2 a3_3 a3_4 a3_5).bind fun t378 => ((catchmentref05_Entries.f k (([(⟨a3_0, a3_1, a3_2, a3_3, a3_4, a3_5⟩ : S46)] : List (S46))) y343 (⟨#[]⟩ : ByteArray) (⟨#[]⟩ : ByteArray)).bind fun t384 => ((catchmentref05_Same.f k t378 t384).bind fun t387 => (some t387)))) else (none))))) else (none)))) else (none)))) = some r := H
              have A17 := Aside0.mk A170
              clear A170
              replace H := Option.bind_eq_some_iff.mp H
              obtain ⟨t363, A180, H⟩ := H
              replace H : ((catchmentref05_Same.f k t360 t363).bind fun t366 => (if t366 = true then ((block_Drop.f k y343 a1_0).bind fun t367 => ((catchmentref05_Same.f k t367 t356).bind fun t370 => (if t370 = true then ((block_Cut.f k y343 a2_0 a2_1).bind fun t371 => ((catchmentref10_Cut.f k y343 a2_0 a2_1).bind fun t374 => ((catchmentref05_Same.f k t371 t374).bind fun t377 => (if t377 = true then ((block_Apply.f k y343 a3_0 a3_1 a3_2 a3_3 a3_4 a3_5).bind fun t378 => ((catchmentref05_Entries.f k (([(⟨a3_0, a3_1, a3_2, a3_3, a3_4, a3_5⟩ : S46)] : List (S46))) y343 (⟨#[]⟩ : ByteArray) (⟨#[]⟩ : ByteArray)).bind fun t384 => ((catchmentref05_Same.f k t378 t384).bind fun t387 => (some t387)))) else (none))))) else (none)))) else (none))) = some r := H
              have A18 := Aside0.mk A180
              clear A180
              replace H := Option.bind_eq_some_iff.mp H
              obtain ⟨t366, A190, H⟩ := H
              replace H : (if t366 = true then ((block_Drop.f k y343 a1_0).bind fun t367 => ((catchmentref05_Same.f k t367 t356).bind fun t370 => (if t370 = true then ((block_Cut.f k y343 a2_0 a2_1).bind fun t371 => ((catchmentref10_Cut.f k y343 a2_0 a2_1).bind fun t374 => ((catchmentref05_Same.f k t371 t374).bind fun t377 => (if t377 = true then ((block_Apply.f k y343 a3_0 a3_1 a3_2 a3_3 a3_4 a3_5).bind fun t378 => ((catchmentref05_Entries.f k (([(⟨a3_0, a3_1, a3_2, a3_3, a3_4, a3_5⟩ : S46)] : List (S46))) y343 (⟨#[]⟩ : ByteArray) (⟨#[]⟩ : ByteArray)).bind fun t384 => ((catchmentref05_Same.f k t378 t384).bind fun t387 => (some t387)))) else (none))))) else (none)))) else (none)) = some r := H
              have A19 := Aside0.mk A190
              clear A190
              by_cases c20 : t366 = true
              · subst c20
                have H1 : ((block_Drop.f k y343 a1_0).bind fun t367 => ((catchmentref05_Same.f k t367 t356).bind fun t370 => (if t370 = true then ((block_Cut.f k y343 a2_0 a2_1).bind fun t371 => ((catchmentref10_Cut.f k y343 a2_0 a2_1).bind fun t374 => ((catchmentref05_Same.f k t371 t374).bind fun t377 => (if t377 = true then ((block_Apply.f k y343 a3_0 a3_1 a3_2 a3_3 a3_4 a3_5).bind fun t378 => ((catchmentref05_Entries.f k (([(⟨a3_0, a3_1, a3_2, a3_3, a3_4, a3_5⟩ : S46)] : List (S46))) y343 (⟨#[]⟩ : ByteArray) (⟨#[]⟩ : ByteArray)).bind fun t384 => ((catchmentref05_Same.f k t378 t384).bind fun t387 => (some t387)))) else (none))))) else (none)))) = some r := by rw [if_pos rfl] at H; exact H
                clear H
                have H := H1
                clear H1
                replace H := Option.bind_eq_some_iff.mp H
                obtain ⟨t367, A210, H⟩ := H
                replace H : ((catchmentref05_Same.f k t367 t356).bind fun t370 => (if t370 = true then ((block_Cut.f k y343 a2_0 a2_1).bind fun t371 => ((catchmentref10_Cut.f k y343 a2_0 a2_1).bind fun t374 => ((catchmentref05_Same.f k t371 t374).bind fun t377 => (if t377 = true then ((block_Apply.f k y343 a3_0 a3_1 a3_2 a3_3 a3_4 a3_5).bind fun t378 => ((catchmentref05_Entries.f k (([(⟨a3_0, a3_1, a3_2, a3_3, a3_4, a3_5⟩ : S46)] : List (S46))) y343 (⟨#[]⟩ : ByteArray) (⟨#[]⟩ : ByteArray)).bind fun t384 => ((catchmentref05_Same.f k t378 t384).bind fun t387 => (some t387)))) else (none))))) else (none))) = some r := H
                have A21 := Aside0.mk A210
                clear A210
                replace H := Option.bind_eq_some_iff.mp H
                obtain ⟨t370, A220, H⟩ := H
                replace H : (if t370 = true then ((block_Cut.f k y343 a2_0 a2_1).bind fun t371 => ((catchmentref10_Cut.f k y343 a2_0 a2_1).bind fun t374 => ((catchmentref05_Same.f k t371 t374).bind fun t377 => (if t377 = true then ((block_Apply.f k y343 a3_0 a3_1 a3_2 a3_3 a3_4 a3_5).bind fun t378 => ((catchmentref05_Entries.f k (([(⟨a3_0, a3_1, a3_2, a3_3, a3_4, a3_5⟩ : S46)] : List (S46))) y343 (⟨#[]⟩ : ByteArray) (⟨#[]⟩ : ByteArray)).bind fun t384 => ((catchmentref05_Same.f k t378 t384).bind fun t387 => (some t387)))) else (none))))) else (none)) = some r := H
                have A22 := Aside0.mk A220
                clear A220
                by_cases c23 : t370 = true
                · subst c23
                  have H1 : ((block_Cut.f k y343 a2_0 a2_1).bind fun t371 => ((catchmentref10_Cut.f k y343 a2_0 a2_1).bind fun t374 => ((catchmentref05_Same.f k t371 t374).bind fun t377 => (if t377 = true then ((block_Apply.f k y343 a3_0 a3_1 a3_2 a3_3 a3_4 a3_5).bind fun t378 => ((catchmentref05_Entries.f k (([(⟨a3_0, a3_1, a3_2, a3_3, a3_4, a3_5⟩ : S46)] : List (S46))) y343 (⟨#[]⟩ : ByteArray) (⟨#[]⟩ : ByteArray)).bind fun t384 => ((catchmentref05_Same.f k t378 t384).bind fun t387 => (some t387)))) else (none))))) = some r := by rw [if_pos rfl] at H; exact H
                  clear H
                  have H := H1
                  clear H1
                  replace H := Option.bind_eq_some_iff.mp H
                  obtain ⟨t371, A240, H⟩ := H
                  replace H : ((catchmentref10_Cut.f k y343 a2_0 a2_1).bind fun t374 => ((catchmentref05_Same.f k t371 t374).bind fun t377 => (if t377 = true then ((block_Apply.f k y343 a3_0 a3_1 a3_2 a3_3 a3_4 a3_5).bind fun t378 => ((catchmentref05_Entries.f k (([(⟨a3_0, a3_1, a3_2, a3_3, a3_4, a3_5⟩ : S46)] : List (S46))) y343 (⟨#[]⟩ : ByteArray) (⟨#[]⟩ : ByteArray)).bind fun t384 => ((catchmentref05_Same.f k t378 t384).bind fun t387 => (some t387)))) else (none)))) = some r := H
                  have A24 := Aside0.mk A240
                  clear A240
                  replace H := Option.bind_eq_some_iff.mp H
                  obtain ⟨t374, A250, H⟩ := H
                  replace H : ((catchmentref05_Same.f k t371 t374).bind fun t377 => (if t377 = true then ((block_Apply.f k y343 a3_0 a3_1 a3_2 a3_3 a3_4 a3_5).bind fun t378 => ((catchmentref05_Entries.f k (([(⟨a3_0, a3_1, a3_2, a3_3, a3_4, a3_5⟩ : S46)] : List (S46))) y343 (⟨#[]⟩ : ByteArray) (⟨#[]⟩ : ByteArray)).bind fun t384 => ((catchmentref05_Same.f k t378 t384).bind fun t387 => (some t387)))) else (none))) = some r := H
                  have A25 := Aside0.mk A250
                  clear A250
                  replace H := Option.bind_eq_some_iff.mp H
                  obtain ⟨t377, A260, H⟩ := H
                  replace H : (if t377 = true then ((block_Apply.f k y343 a3_0 a3_1 a3_2 a3_3 a3_4 a3_5).bind fun t378 => ((catchmentref05_Entries.f k (([(⟨a3_0, a3_1, a3_2, a3_3, a3_4, a3_5⟩ : S46)] : List (S46))) y343 (⟨#[]⟩ : ByteArray) (⟨#[]⟩ : ByteArray)).bind fun t384 => ((catchmentref05_Same.f k t378 t384).bind fun t387 => (some t387)))) else (none)) = some r := H
                  have A26 := Aside0.mk A260
                  clear A260
                  by_cases c27 : t377 = true
                  · subst c27
                    have H1 : ((block_Apply.f k y343 a3_0 a3_1 a3_2 a3_3 a3_4 a3_5).bind fun t378 => ((catchmentref05_Entries.f k (([(⟨a3_0, a3_1, a3_2, a3_3, a3_4, a3_5⟩ : S46)] : List (S46))) y343 (⟨#[]⟩ : ByteArray) (⟨#[]⟩ : ByteArray)).bind fun t384 => ((catchmentref05_Same.f k t378 t384).bind fun t387 => (some t387)))) = some r := by rw [if_pos rfl] at H; exact H
                    clear H
                    have H := H1
                    clear H1
                    replace H := Option.bind_eq_some_iff.mp H
                    obtain ⟨t378, A280, H⟩ := H
                    replace H : ((catchmentref05_Entries.f k (([(⟨a3_0, a3_1, a3_2, a3_3, a3_4, a3_5⟩ : S46)] : List (S46))) y343 (⟨#[]⟩ : ByteArray) (⟨#[]⟩ : ByteArray)).bind fun t384 => ((catchmentref05_Same.f k t378 t384).bind fun t387 => (some t387))) = some r := H
                    have A28 := Aside0.mk A280
                    clear A280
                    obtain ⟨y381, hy381⟩ : ∃ y_ : List (S46), y_ = (([(⟨a3_0, a3_1, a3_2, a3_3, a3_4, a3_5⟩ : S46)] : List (S46))) := ⟨_, rfl⟩
                    replace H : ((catchmentref05_Entries.f k y381 y343 (⟨#[]⟩ : ByteArray) (⟨#[]⟩ : ByteArray)).bind fun t384 => ((catchmentref05_Same.f k t378 t384).bind fun t387 => (some t387))) = some r := by first | (rw [hy381]; with_reducible exact H) | (have H2_ := (Option.bind_some _ _).symm.trans H; rw [hy381]; with_reducible exact H2_) | (have H2_ := (Option.bind_some _ _).symm.trans H; with_reducible exact H2_) | with_reducible exact H | (rw [hy381]; exact H) | exact H
                    have Ny381 := Aside0.mk hy381
                    clear hy381
                    replace H := Option.bind_eq_some_iff.mp H
                    obtain ⟨t384, A290, H⟩ := H
                    replace H : ((catchmentref05_Same.f k t378 t384).bind fun t387 => (some t387)) = some r := H
                    have A29 := Aside0.mk A290
                    clear A290
                    replace H := Option.bind_eq_some_iff.mp H
                    obtain ⟨t387, A300, H⟩ := H
                    replace H : (some t387) = some r := H
                    have A30 := Aside0.mk A300
                    clear A300
                    obtain rfl := Option.some.inj H
                    have HFEW := Aside0.mk (show ∀ W : World, Calls Try.prog 15 #[.slice A0 l0.length c0] W (fun e w' => e = .returned (.slice A0 y343.length c0) ∧ W = w') from fun W => by have h_ := catchmentlaw10_BlockDoes_few_read A0 c0 l0 HC0.out W; rw [hji5, ← Ny343.out] at h_; exact h_.mono fun _ _ h => ⟨h.1, h.2.symm⟩)
                    go_enter Try.func13, Try.ntmps13
                    try go_wp2_with (first | (go_at_call 15; refine (HFEW.out _).mono ?_; rintro e w_ ⟨rfl, rfl⟩) | ((with_reducible refine gate_dst (N := 5) rfl ?_); (try (refine gate_guard (by rfl) ?_; dsimp only)); refine box_event ?hg (N := 5) ?hd (cs := #[.string a1_0, .string a1_1]) (t := 25) ?hr ?_; (case hd => rfl); (case hg => rfl); (case hr => first | (go_simp; done) | (go_simp; rfl)); intro gb340 hg w31 hbox hb; have n0_ := Aside0.mk (below_step (by repeat (first | (with_reducible first | exact HB.out | apply below_alloc | apply pw_below_drewN | apply below_drew1) | exact HB.out)) hb); have n1_ := Aside0.mk (hbox); have n2_ := Aside0.mk ((by rw [hg]; exact (below_size (by repeat (first | (with_reducible first | exact HB.out | apply below_alloc | apply pw_below_drewN | apply below_drew1) | exact HB.out))) : w.heap.size ≤ gb340)); have n3_ := Aside0.mk ((by rw [hg]; exact (below_size (by repeat (first | (with_reducible first | exact HB.out | apply below_alloc | apply pw_below_drewN | apply below_drew1) | exact HB.out))) : w.heap.size ≤ gb340)); clear HB; have HB := n0_; have BK340 := n1_; have GW340 := n2_; have GE340 := n3_; clear n0_ n1_ n2_ n3_; clear hb hbox hg) | ((with_reducible refine gate_dst (N := 6) rfl ?_); (try (refine gate_guard (by rfl) ?_; dsimp only)); refine box_event ?hg (N := 6) ?hd (cs := #[.string a2_0, .string a2_1]) (t := 48) ?hr ?_; (case hd => rfl); (case hg => rfl); (case hr => first | (go_simp; done) | (go_simp; rfl)); intro gb341 hg w32 hbox hb; have n0_ := Aside0.mk (blk_below (g := gb340) (o := .cells #[.string a1_0, .string a1_1] 25 (0, 0)) (by (with_reducible repeat (first | refine blk_drewN ?_ _ | refine blk_drew ?_ | refine blk_alloc ?_ _)); exact BK340.out) hb); have n1_ := Aside0.mk (below_step (by repeat (first | (with_reducible first | exact HB.out | apply below_alloc | apply pw_below_drewN | apply below_drew1 | refine below_set ?_ GE340.out) | exact HB.out)) hb); have n2_ := Aside0.mk (hbox); have n3_ := Aside0.mk ((by rw [hg]; exact (below_size (by repeat (first | (with_reducible first | exact HB.out | apply below_alloc | apply pw_below_drewN | apply below_drew1 | refine below_set ?_ GE340.out) | exact HB.out))) : w.heap.size ≤ gb341)); have n4_ := Aside0.mk ((by rw [hg]; exact (below_size (by repeat (first | (with_reducible first | exact HB.out | apply below_alloc | apply pw_below_drewN | apply below_drew1 | refine below_set ?_ GE340.out) | exact HB.out))) : w.heap.size ≤ gb341)); have n5_ := Aside0.mk ((by rw [hg]; exact Nat.ne_of_lt (blk_lt (g := gb340) (o := .cells #[.string a1_0, .string a1_1] 25 (0, 0)) (by (with_reducible repeat (first | refine blk_drewN ?_ _ | refine blk_drew ?_ | refine blk_alloc ?_ _)); exact BK340.out)) : gb340 ≠ gb341)); have n6_ := Aside0.mk ((by rw [hg]; exact Nat.ne_of_gt (blk_lt (g := gb340) (o := .cells #[.string a1_0, .string a1_1] 25 (0, 0)) (by (with_reducible repeat (first | refine blk_drewN ?_ _ | refine blk_drew ?_ | refine blk_alloc ?_ _)); exact BK340.out)) : gb341 ≠ gb340)); clear BK340; clear HB; have BK340 := n0_; have HB := n1_; have BK341 := n2_; have GW341 := n3_; have GE341 := n4_; have NB340_341 := n5_; have NB341_340 := n6_; clear n0_ n1_ n2_ n3_ n4_ n5_ n6_; clear hb hbox hg) | ((with_reducible refine gate_dst (N := 7) rfl ?_); (try (refine gate_guard (by rfl) ?_; dsimp only)); refine box_event ?hg (N := 7) ?hd (cs := #[.int .u8 a3_0, .int .i64 a3_1, .string a3_2, .string a3_3, .string a3_4, .int .u64 a3_5]) (t := 46) ?hr ?_; (case hd => rfl); (case hg => rfl); (case hr => first | (go_simp; done) | (go_simp; rfl)); intro gb342 hg w33 hbox hb; have n0_ := Aside0.mk (blk_below (g := gb340) (o := .cells #[.string a1_0, .string a1_1] 25 (0, 0)) (by (with_reducible repeat (first | refine blk_drewN ?_ _ | refine blk_drew ?_ | refine blk_alloc ?_ _)); exact BK340.out) hb); have n1_ := Aside0.mk (blk_below (g := gb341) (o := .cells #[.string a2_0, .string a2_1] 48 (0, 0)) (by (with_reducible repeat (first | refine blk_drewN ?_ _ | refine blk_drew ?_ | refine blk_alloc ?_ _)); exact BK341.out) hb); have n2_ := Aside0.mk (below_step (by repeat (first | (with_reducible first | exact HB.out | apply below_alloc | apply pw_below_drewN | apply below_drew1 | refine below_set ?_ GE340.out | refine below_set ?_ GE341.out) | exact HB.out)) hb); have n3_ := Aside0.mk (hbox); have n4_ := Aside0.mk ((by rw [hg]; exact (below_size (by repeat (first | (with_reducible first | exact HB.out | apply below_alloc | apply pw_below_drewN | apply below_drew1 | refine below_set ?_ GE340.out | refine below_set ?_ GE341.out) | exact HB.out))) : w.heap.size ≤ gb342)); have n5_ := Aside0.mk ((by rw [hg]; exact (below_size (by repeat (first | (with_reducible first | exact HB.out | apply below_alloc | apply pw_below_drewN | apply below_drew1 | refine below_set ?_ GE340.out | refine below_set ?_ GE341.out) | exact HB.out))) : w.heap.size ≤ gb342)); have n6_ := Aside0.mk ((by rw [hg]; exact Nat.ne_of_lt (blk_lt (g := gb340) (o := .cells #[.string a1_0, .string a1_1] 25 (0, 0)) (by (with_reducible repeat (first | refine blk_drewN ?_ _ | refine blk_drew ?_ | refine blk_alloc ?_ _)); exact BK340.out)) : gb340 ≠ gb342)); have n7_ := Aside0.mk ((by rw [hg]; exact Nat.ne_of_gt (blk_lt (g := gb340) (o := .cells #[.string a1_0, .string a1_1] 25 (0, 0)) (by (with_reducible repeat (first | refine blk_drewN ?_ _ | refine blk_drew ?_ | refine blk_alloc ?_ _)); exact BK340.out)) : gb342 ≠ gb340)); have n8_ := Aside0.mk ((by rw [hg]; exact Nat.ne_of_lt (blk_lt (g := gb341) (o := .cells #[.string a2_0, .string a2_1] 48 (0, 0)) (by (with_reducible repeat (first | refine blk_drewN ?_ _ | refine blk_drew ?_ | refine blk_alloc ?_ _)); exact BK341.out)) : gb341 ≠ gb342)); have n9_ := Aside0.mk ((by rw [hg]; exact Nat.ne_of_gt (blk_lt (g := gb341) (o := .cells #[.string a2_0, .string a2_1] 48 (0, 0)) (by (with_reducible repeat (first | refine blk_drewN ?_ _ | refine blk_drew ?_ | refine blk_alloc ?_ _)); exact BK341.out)) : gb342 ≠ gb341)); clear BK340; clear BK341; clear HB; have BK340 := n0_; have BK341 := n1_; have HB := n2_; have BK342 := n3_; have GW342 := n4_; have GE342 := n5_; have NB340_342 := n6_; have NB342_340 := n7_; have NB341_342 := n8_; have NB342_341 := n9_; clear n0_ n1_ n2_ n3_ n4_ n5_ n6_ n7_ n8_ n9_; clear hb hbox hg; have q34 : ((ji5) : Int) ≤ ((l0.length : Int) : Int) := of_decide_eq_true (by first | (with_reducible assumption) | assumption); obtain ⟨i034, hi034, _, hsz34, _⟩ := info_parts info25; have hroom34 : l0.length ≤ c0 := HC0.out; have hC34 : Kd.C k25 _ A0 l0.length l0 := HR0.out; have hcut34 := cut_to (P := Try.prog) 22 25 .i64 Try.underlying22 hi034 A0 l0.length c0 (ji5) (of_decide_eq_true (by first | (with_reducible assumption) | assumption)) q34 hroom34; have hr34 := Kd.C_take (m := ((ji5) : Int).toNat) hC34 (by omega); have hy34 : y343.length = ((ji5) : Int).toNat := (by rw [Ny343.out, List.length_take]; omega); rw [← Ny343.out] at hr34; rw [← hy34] at hcut34; have HR346 := Aside0.mk hr34; have HC346 := Aside0.mk (show y343.length ≤ c0 from by omega); clear hr34 hC34 hroom34 hi034 hsz34; have KY34 := Aside0.mk hy34; clear hy34; replace q34 := eq_true q34) | ((with_reducible refine gate_callee (f := 22) rfl ?_); refine goesL_ (some 17) rfl rfl Try.func22 (by kernel_rfl) rfl #[.slice A0 y343.length c0] rfl (by (try simp only [List.map_toArray, List.map_cons, List.map_nil]); first | done | rfl | (simp only [List.length_drop, List.length_take]; rfl)) ?_; (with_reducible refine (catchmentref05_Rises.calls k _ _ y343 true _ ?side1 ?side2 A8.out).mono ?_); (case side1 => repeat (first | exact (Kd.C_below HR346.out HB.out) | (with_reducible refine Kd.C_alloc ?_ _) | (with_reducible refine Kd.C_drewN ?_ _) | (with_reducible refine Kd.C_drew ?_))); (case side2 => exact HC346.out); rintro e w' ⟨rfl, ⟨nd, rfl⟩⟩; refine ⟨_, rfl, ?_⟩; have hnb35 := NB340_341.out; have hnc35 := NB341_340.out; have hnb36 := NB340_342.out; have hnc36 := NB342_340.out; have hcz37_0 : w33.cell? ⟨gb340, 0, none⟩ = some (.string a1_0) := (blk_cell BK340.out 0).trans rfl; have hcz37_1 : w33.cell? ⟨gb340, 1, none⟩ = some (.string a1_1) := (blk_cell BK340.out 1).trans rfl; have hfz37_0 := blk_frozen BK340.out 0; have hfz37_1 := blk_frozen BK340.out 1) | ((with_reducible refine gate_callee (f := 62) rfl ?_); refine goesL_ (some 24) rfl rfl Try.func62 (by kernel_rfl) rfl #[.slice A0 y343.length c0, .string a1_0] rfl (by (try simp only [List.map_toArray, List.map_cons, List.map_nil]); first | done | rfl | (simp only [List.length_drop, List.length_take]; rfl)) ?_; (with_reducible refine (block_Place.calls k _ _ y343 a1_0 t349 t350 _ ?side1 ?side2 A10.out).mono ?_); (case side1 => repeat (first | exact (Kd.C_below HR346.out (by repeat (first | (with_reducible first | exact HB.out | apply below_alloc | apply pw_below_drewN | apply below_drew1 | refine below_set ?_ GE340.out | refine below_set ?_ GE341.out | refine below_set ?_ GE342.out) | exact HB.out))) | (with_reducible refine Kd.C_alloc ?_ _) | (with_reducible refine Kd.C_drewN ?_ _) | (with_reducible refine Kd.C_drew ?_))); (case side2 => exact HC346.out); rintro e w38 ⟨rfl, hb⟩; refine ⟨_, rfl, ?_⟩; have n0_ := Aside0.mk (blk_below (g := gb340) (o := .cells #[.string a1_0, .string a1_1] 25 (0, 0)) (by (with_reducible repeat (first | refine blk_drewN ?_ _ | refine blk_drew ?_ | refine blk_alloc ?_ _)); exact BK340.out) hb); have n1_ := Aside0.mk (blk_below (g := gb341) (o := .cells #[.string a2_0, .string a2_1] 48 (0, 0)) (by (with_reducible repeat (first | refine blk_drewN ?_ _ | refine blk_drew ?_ | refine blk_alloc ?_ _)); exact BK341.out) hb); have n2_ := Aside0.mk (blk_below (g := gb342) (o := .cells #[.int .u8 a3_0, .int .i64 a3_1, .string a3_2, .string a3_3, .string a3_4, .int .u64 a3_5] 46 (0, 0)) (by (with_reducible repeat (first | refine blk_drewN ?_ _ | refine blk_drew ?_ | refine blk_alloc ?_ _)); exact BK342.out) hb); have n3_ := Aside0.mk (below_step (by repeat (first | (with_reducible first | exact HB.out | apply below_alloc | apply pw_below_drewN | apply below_drew1 | refine below_set ?_ GE340.out | refine below_set ?_ GE341.out | refine below_set ?_ GE342.out) | exact HB.out)) hb); clear BK340; clear BK341; clear BK342; clear HB; have BK340 := n0_; have BK341 := n1_; have BK342 := n2_; have HB := n3_; clear n0_ n1_ n2_ n3_; (try clear hb); (try clear hb2); (try clear hk); (try clear hi); have hcz39_0 : w38.cell? ⟨gb340, 0, none⟩ = some (.string a1_0) := (blk_cell BK340.out 0).trans rfl; have hcz39_1 : w38.cell? ⟨gb340, 1, none⟩ = some (.string a1_1) := (blk_cell BK340.out 1).trans rfl; have hfz39_0 := blk_frozen BK340.out 0; have hfz39_1 := blk_frozen BK340.out 1) | ((with_reducible refine gate_callee (f := 63) rfl ?_); refine goesL_ (some 31) rfl rfl Try.func63 (by kernel_rfl) rfl #[.slice A0 y343.length c0, .string a1_0] rfl (by (try simp only [List.map_toArray, List.map_cons, List.map_nil]); first | done | rfl | (simp only [List.length_drop, List.length_take]; rfl)) ?_; (with_reducible refine (catchmentref10_Place.calls k _ _ y343 a1_0 t351 t352 _ ?side1 ?side2 A11.out).mono ?_); (case side1 => repeat (first | exact (Kd.C_below HR346.out HB.out) | (with_reducible refine Kd.C_alloc ?_ _) | (with_reducible refine Kd.C_drewN ?_ _) | (with_reducible refine Kd.C_drew ?_))); (case side2 => exact HC346.out); rintro e w' ⟨rfl, ⟨nd, rfl⟩⟩; refine ⟨_, rfl, ?_⟩) | ((with_reducible refine gate_dst (N := 37) rfl ?_); (try (refine gate_guard (by rfl) ?_; dsimp only)); refine Kd.R_lit k46 _ 46 ?hg (N := 37) ?hd (xs := ([(⟨2, 0, a1_0, (⟨#[]⟩ : ByteArray), (⟨#[]⟩ : ByteArray), 0⟩ : S46)] : List (S46))) (inner := [.int .u8 2, .int .i64 0, .string a1_0, .string (⟨#[]⟩ : ByteArray), .string (⟨#[]⟩ : ByteArray), .int .u64 0]) (ok := fun _ => True) (okp := fun _ => True) ?hr ?hp (fun _ hk => hk) trivial (Below.refl _ _) (Nat.le_refl _) (by simp) ?_; (case hd => rfl); (case hg => rfl); (case hr => first | (go_simp; done) | (go_simp; rfl)); (case hp => exact (Reps.c6 (show Kd.M k46 _ _ _ (⟨2, 0, a1_0, (⟨#[]⟩ : ByteArray), (⟨#[]⟩ : ByteArray), 0⟩ : S46) [.int .u8 2, .int .i64 0, .string a1_0, .string (⟨#[]⟩ : ByteArray), .string (⟨#[]⟩ : ByteArray), .int .u64 0] from (k46_mkM _ _ _ (⟨2, 0, a1_0, (⟨#[]⟩ : ByteArray), (⟨#[]⟩ : ByteArray), 0⟩ : S46) )) (Reps.none _ _))); intro v354 w40 ho41 hb hg_ hnew_; clear hg_ hnew_; (first | rw [← Ny353.out] at ho41 | (simp only [Int.reduceToNat] at ho41; rw [← Ny353.out] at ho41)); have n0_ := Aside0.mk (Kd.R_lower (Kd.R_newB ho41 (g := gb342) (o := .cells #[.int .u8 a3_0, .int .i64 a3_1, .string a3_2, .string a3_3, .string a3_4, .int .u64 a3_5] 46 (0, 0)) (by (with_reducible repeat (first | refine blk_drewN ?_ _ | refine blk_drew ?_ | refine blk_alloc ?_ _)); exact BK342.out)) (below_size (by repeat (first | (with_reducible first | exact HB.out | apply below_alloc | apply pw_below_drewN | apply below_drew1 | refine below_set ?_ GE340.out | refine below_set ?_ GE341.out | refine below_set ?_ GE342.out) | exact HB.out)))); have n1_ := Aside0.mk (blk_below (g := gb340) (o := .cells #[.string a1_0, .string a1_1] 25 (0, 0)) (by (with_reducible repeat (first | refine blk_drewN ?_ _ | refine blk_drew ?_ | refine blk_alloc ?_ _)); exact BK340.out) hb); have n2_ := Aside0.mk (blk_below (g := gb341) (o := .cells #[.string a2_0, .string a2_1] 48 (0, 0)) (by (with_reducible repeat (first | refine blk_drewN ?_ _ | refine blk_drew ?_ | refine blk_alloc ?_ _)); exact BK341.out) hb); have n3_ := Aside0.mk (blk_below (g := gb342) (o := .cells #[.int .u8 a3_0, .int .i64 a3_1, .string a3_2, .string a3_3, .string a3_4, .int .u64 a3_5] 46 (0, 0)) (by (with_reducible repeat (first | refine blk_drewN ?_ _ | refine blk_drew ?_ | refine blk_alloc ?_ _)); exact BK342.out) hb); have n4_ := Aside0.mk (below_step (by repeat (first | (with_reducible first | exact HB.out | apply below_alloc | apply pw_below_drewN | apply below_drew1 | refine below_set ?_ GE340.out | refine below_set ?_ GE341.out | refine below_set ?_ GE342.out) | exact HB.out)) hb); clear BK340; clear BK341; clear BK342; clear HB; have HO355 := n0_; have BK340 := n1_; have BK341 := n2_; have BK342 := n3_; have HB := n4_; clear n0_ n1_ n2_ n3_ n4_; clear hb ho41; obtain ⟨Ao42, co42, eo42⟩ := Kd.R_slice HO355.out; subst eo42) | ((with_reducible refine gate_callee (f := 64) rfl ?_); refine goesL_ (some 40) rfl rfl Try.func64 (by kernel_rfl) rfl #[.slice Ao42 y353.length co42, .slice A0 y343.length c0, .agg #[.string (⟨#[]⟩ : ByteArray), .string (⟨#[]⟩ : ByteArray)]] rfl (by (try simp only [List.map_toArray, List.map_cons, List.map_nil]); first | done | rfl | (simp only [List.length_drop, List.length_take]; rfl)) ?_; (with_reducible refine (catchmentref05_Entries.calls k _ _ y353 _ _ y343 (⟨#[]⟩ : ByteArray) (⟨#[]⟩ : ByteArray) t356 _ ?side1 ?side2 ?side3 ?side4 A12.out).mono ?_); (case side1 => repeat (first | exact (Kd.R_reads' HO355.out).2.2 | (with_reducible refine Kd.C_alloc ?_ _) | (with_reducible refine Kd.C_drewN ?_ _) | (with_reducible refine Kd.C_drew ?_))); (case side2 => exact (Kd.R_reads' HO355.out).2.1); (case side3 => repeat (first | exact (Kd.C_below HR346.out HB.out) | (with_reducible refine Kd.C_alloc ?_ _) | (with_reducible refine Kd.C_drewN ?_ _) | (with_reducible refine Kd.C_drew ?_))); (case side4 => exact HC346.out); rintro e w43 ⟨v357, rfl, ho0, hb⟩; refine ⟨_, rfl, ?_⟩; have n0_ := Aside0.mk (Kd.R_below (by (with_reducible repeat (first | apply Kd.R_alloc | apply Kd.R_drewN | apply Kd.R_drew)); exact HO355.out) hb); have n1_ := Aside0.mk (Kd.R_lower (Kd.R_newB ho0 (g := gb340) (o := .cells #[.string a1_0, .string a1_1] 25 (0, 0)) (by (with_reducible repeat (first | refine blk_drewN ?_ _ | refine blk_drew ?_ | refine blk_alloc ?_ _)); exact BK340.out)) (below_size (by repeat (first | (with_reducible first | exact HB.out | apply below_alloc | apply pw_below_drewN | apply below_drew1 | refine below_set ?_ GE340.out | refine below_set ?_ GE341.out | refine below_set ?_ GE342.out) | exact HB.out)))); have n2_ := Aside0.mk (blk_below (g := gb340) (o := .cells #[.string a1_0, .string a1_1] 25 (0, 0)) (by (with_reducible repeat (first | refine blk_drewN ?_ _ | refine blk_drew ?_ | refine blk_alloc ?_ _)); exact BK340.out) hb); have n3_ := Aside0.mk (blk_below (g := gb341) (o := .cells #[.string a2_0, .string a2_1] 48 (0, 0)) (by (with_reducible repeat (first | refine blk_drewN ?_ _ | refine blk_drew ?_ | refine blk_alloc ?_ _)); exact BK341.out) hb); have n4_ := Aside0.mk (blk_below (g := gb342) (o := .cells #[.int .u8 a3_0, .int .i64 a3_1, .string a3_2, .string a3_3, .string a3_4, .int .u64 a3_5] 46 (0, 0)) (by (with_reducible repeat (first | refine blk_drewN ?_ _ | refine blk_drew ?_ | refine blk_alloc ?_ _)); exact BK342.out) hb); have n5_ := Aside0.mk (below_step (by repeat (first | (with_reducible first | exact HB.out | apply below_alloc | apply pw_below_drewN | apply below_drew1 | refine below_set ?_ GE340.out | refine below_set ?_ GE341.out | refine below_set ?_ GE342.out) | exact HB.out)) hb); clear HO355; clear BK340; clear BK341; clear BK342; clear HB; have HO355 := n0_; have HO358 := n1_; have BK340 := n2_; have BK341 := n3_; have BK342 := n4_; have HB := n5_; clear n0_ n1_ n2_ n3_ n4_ n5_; (try clear hb); (try clear hb2); (try clear hk); (try clear hi); (try clear ho0); obtain ⟨Ao44, co44, eo44⟩ := Kd.R_slice HO358.out; subst eo44))
                    have n0_ := Aside0.mk (Kd.R_drew HO355.out)
                    have n1_ := Aside0.mk (Kd.R_drew HO358.out)
                    have n2_ := Aside0.mk (blk_drew BK340.out)
                    have n3_ := Aside0.mk (blk_drew BK341.out)
                    have n4_ := Aside0.mk (blk_drew BK342.out)
                    have n5_ := Aside0.mk (below_drew1 HB.out)
                    clear HO355
                    clear HO358
                    clear BK340
                    clear BK341
                    clear BK342
                    clear HB
                    have HO355 := n0_
                    have HO358 := n1_
                    have BK340 := n2_
                    have BK341 := n3_
                    have BK342 := n4_
                    have HB := n5_
                    clear n0_ n1_ n2_ n3_ n4_ n5_
                    refine start_ (n := 49) (S := fun w' => w'.cell? ⟨gb340, 0, none⟩ = some (.string a1_0) ∧ w'.cell? ⟨gb340, 1, none⟩ = some (.string a1_1) ∧ w'.cell? ⟨gb341, 0, none⟩ = some (.string a2_0) ∧ w'.cell? ⟨gb341, 1, none⟩ = some (.string a2_1) ∧ w'.cell? ⟨gb342, 0, none⟩ = some (.int .u8 a3_0) ∧ w'.cell? ⟨gb342, 1, none⟩ = some (.int .i64 a3_1) ∧ w'.cell? ⟨gb342, 2, none⟩ = some (.string a3_2) ∧ w'.cell? ⟨gb342, 3, none⟩ = some (.string a3_3) ∧ w'.cell? ⟨gb342, 4, none⟩ = some (.string a3_4) ∧ w'.cell? ⟨gb342, 5, none⟩ = some (.int .u64 a3_5)) (ds := []) #[false, false, false, false, false, false, false, false, false, false, false, false, false, false, false, false, false, false, false, false, false, false, false, false, false, false, false, false, false, false, false, false, false, false, false, false, false, false, false, false, false, false, false, false, false, false, false, false, false] (by kernel_rfl) rfl rfl ⟨(blk_cell BK340.out 0).trans rfl, (blk_cell BK340.out 1).trans rfl, (blk_cell BK341.out 0).trans rfl, (blk_cell BK341.out 1).trans rfl, (blk_cell BK342.out 0).trans rfl, (blk_cell BK342.out 1).trans rfl, (blk_cell BK342.out 2).trans rfl, (blk_cell BK342.out 3).trans rfl, (blk_cell BK342.out 4).trans rfl, (blk_cell BK342.out 5).trans rfl⟩ (fun hHeld => ?_); refine with_tabW catchmentlaw10_BlockDoes.tab7 catchmentlaw10_BlockDoes.bits7 (fun HT_ HW_ => ?_)
                    generalize w43.drew = w45 at HO355 HO358 BK340 BK341 BK342 HB hHeld ⊢
                    refine one_ (i := 0) (N := some 41) #[true, false, false, false, false, false, false, false, false, false, false, false, false, false, false, false, false, false, false, false, false, false, false, false, false, false, false, false, false, false, false, false, false, false, false, false, false, false, false, false, false, false, false, false, false, false, false, false, false] rfl rfl (one_of HT_.out (by kernel_rfl)) (by decide) (fun K hK => ?_)
                    refine goes_ Try.func16 (by kernel_rfl) rfl #[] (by rfl) rfl rfl (by (try simp only [List.map_toArray, List.map_cons, List.map_nil]); first | done | rfl | (simp only [List.length_drop, List.length_take]; rfl)) ?_
                    with_reducible refine (catchmentlaw10_live.calls k  true _ A13.out).mono ?_
                    rintro e w46 ⟨rfl, hb⟩
                    refine ⟨_, rfl, ?_⟩
                    have n0_ := Aside0.mk (Kd.R_below (by (with_reducible repeat (first | apply Kd.R_alloc | apply Kd.R_drewN | apply Kd.R_drew)); exact HO355.out) hb)
                    have n1_ := Aside0.mk (Kd.R_below (by (with_reducible repeat (first | apply Kd.R_alloc | apply Kd.R_drewN | apply Kd.R_drew)); exact HO358.out) hb)
                    have n2_ := Aside0.mk (blk_below (g := gb340) (o := .cells #[.string a1_0, .string a1_1] 25 (0, 0)) (by (with_reducible repeat (first | refine blk_drewN ?_ _ | refine blk_drew ?_ | refine blk_alloc ?_ _)); exact BK340.out) hb)
                    have n3_ := Aside0.mk (blk_below (g := gb341) (o := .cells #[.string a2_0, .string a2_1] 48 (0, 0)) (by (with_reducible repeat (first | refine blk_drewN ?_ _ | refine blk_drew ?_ | refine blk_alloc ?_ _)); exact BK341.out) hb)
                    have n4_ := Aside0.mk (blk_below (g := gb342) (o := .cells #[.int .u8 a3_0, .int .i64 a3_1, .string a3_2, .string a3_3, .string a3_4, .int .u64 a3_5] 46 (0, 0)) (by (with_reducible repeat (first | refine blk_drewN ?_ _ | refine blk_drew ?_ | refine blk_alloc ?_ _)); exact BK342.out) hb)
                    have n5_ := Aside0.mk (below_step (by repeat (first | (with_reducible first | exact HB.out | apply below_alloc | apply pw_below_drewN | apply below_drew1 | refine below_set ?_ GE340.out | refine below_set ?_ GE341.out | refine below_set ?_ GE342.out) | exact HB.out)) hb)
                    clear HO355
                    clear HO358
                    clear BK340
                    clear BK341
                    clear BK342
                    clear HB
                    have HO355 := n0_
                    have HO358 := n1_
                    have BK340 := n2_
                    have BK341 := n3_
                    have BK342 := n4_
                    have HB := n5_
                    clear n0_ n1_ n2_ n3_ n4_ n5_
                    (try clear hb)
                    (try clear hb2)
                    (try clear hk)
                    (try clear hi)
                    refine hK.out _ _ ⟨(blk_cell BK340.out 0).trans rfl, (blk_cell BK340.out 1).trans rfl, (blk_cell BK341.out 0).trans rfl, (blk_cell BK341.out 1).trans rfl, (blk_cell BK342.out 0).trans rfl, (blk_cell BK342.out 1).trans rfl, (blk_cell BK342.out 2).trans rfl, (blk_cell BK342.out 3).trans rfl, (blk_cell BK342.out 4).trans rfl, (blk_cell BK342.out 5).trans rfl⟩ (fun hHeld => ?_)
                    clear hK K
                    refine norm_ (a' := ?_) ?_ ?_
                    rotate_left
                    · show Act.put _ (some 41) _ = _
                      simp only [Act.put, List.setIfInBounds_toArray, List.set_cons_zero, List.set_cons_succ, i64_w, i32_w]
                      rfl
                    refine pure_ (i := 1) (N := some 42) (v := ?_) (a' := ?_) #[true, true, false, false, false, false, false, false, false, false, false, false, false, false, false, false, false, false, false, false, false, false, false, false, false, false, false, false, false, false, false, false, false, false, false, false, false, false, false, false, false, false, false, false, false, false, false, false, false] rfl rfl (any_of HT_.out (by kernel_rfl)) (fun _ _ _ h => h) (Or.inl ⟨by rfl, ?_⟩) ?_ ?_
                    rotate_left
                    · intro w'
                      go_simp
                      with_reducible rfl
                    rotate_left
                    · simp only [Act.put, List.setIfInBounds_toArray, List.set_cons_zero, List.set_cons_succ, i64_w, i32_w]
                      rfl
                    refine pure_ (i := 2) (N := some 43) (v := ?_) (a' := ?_) #[true, true, true, false, false, false, false, false, false, false, false, false, false, false, false, false, false, false, false, false, false, false, false, false, false, false, false, false, false, false, false, false, false, false, false, false, false, false, false, false, false, false, false, false, false, false, false, false, false] rfl rfl (any_of HT_.out (by kernel_rfl)) (fun _ _ _ h => h) (Or.inl ⟨by rfl, ?_⟩) ?_ ?_
                    rotate_left
                    · intro w'
                      go_simp
                      with_reducible rfl
                    rotate_left
                    · simp only [Act.put, List.setIfInBounds_toArray, List.set_cons_zero, List.set_cons_succ, i64_w, i32_w]
                      rfl
                    refine pure_ (i := 3) (N := some 44) (v := ?_) (a' := ?_) #[true, true, true, true, false, false, false, false, false, false, false, false, false, false, false, false, false, false, false, false, false, false, false, false, false, false, false, false, false, false, false, false, false, false, false, false, false, false, false, false, false, false, false, false, false, false, false, false, false] rfl rfl (any_of HT_.out (by kernel_rfl)) (fun _ _ _ h => h) (Or.inl ⟨by rfl, ?_⟩) ?_ ?_
                    rotate_left
                    · intro w'
                      go_simp
                      with_reducible rfl
                    rotate_left
                    · simp only [Act.put, List.setIfInBounds_toArray, List.set_cons_zero, List.set_cons_succ, i64_w, i32_w]
                      rfl
                    refine pure_ (i := 4) (N := some 45) (v := ?_) (a' := ?_) #[true, true, true, true, true, false, false, false, false, false, false, false, false, false, false, false, false, false, false, false, false, false, false, false, false, false, false, false, false, false, false, false, false, false, false, false, false, false, false, false, false, false, false, false, false, false, false, false, false] rfl rfl (any_of HT_.out (by kernel_rfl)) (fun _ _ _ h => h) (Or.inl ⟨by rfl, ?_⟩) ?_ ?_
                    rotate_left
                    · intro w'
                      go_simp
                      with_reducible rfl
                    rotate_left
                    · simp only [Act.put, List.setIfInBounds_toArray, List.set_cons_zero, List.set_cons_succ, i64_w, i32_w]
                      rfl
                    refine pure_ (i := 5) (N := some 46) (v := ?_) (a' := ?_) #[true, true, true, true, true, true, false, false, false, false, false, false, false, false, false, false, false, false, false, false, false, false, false, false, false, false, false, false, false, false, false, false, false, false, false, false, false, false, false, false, false, false, false, false, false, false, false, false, false] rfl rfl (any_of HT_.out (by kernel_rfl)) (fun _ _ _ h => h) (Or.inl ⟨by rfl, ?_⟩) ?_ ?_
                    rotate_left
                    · intro w'
                      go_simp
                      with_reducible rfl
                    rotate_left
                    · simp only [Act.put, List.setIfInBounds_toArray, List.set_cons_zero, List.set_cons_succ, i64_w, i32_w]
                      rfl
                    refine pure_ (i := 6) (N := some 47) (v := ?_) (a' := ?_) #[true, true, true, true, true, true, true, false, false, false, false, false, false, false, false, false, false, false, false, false, false, false, false, false, false, false, false, false, false, false, false, false, false, false, false, false, false, false, false, false, false, false, false, false, false, false, false, false, false] rfl rfl (any_of HT_.out (by kernel_rfl)) (fun _ _ _ h => h) (Or.inl ⟨by rfl, ?_⟩) ?_ ?_
                    rotate_left
                    · intro w'
                      go_simp
                      with_reducible rfl
                    rotate_left
                    · simp only [Act.put, List.setIfInBounds_toArray, List.set_cons_zero, List.set_cons_succ, i64_w, i32_w]
                      rfl
                    refine pure_ (i := 7) (N := some 48) (v := ?_) (a' := ?_) #[true, true, true, true, true, true, true, true, false, false, false, false, false, false, false, false, false, false, false, false, false, false, false, false, false, false, false, false, false, false, false, false, false, false, false, false, false, false, false, false, false, false, false, false, false, false, false, false, false] rfl rfl (any_of HT_.out (by kernel_rfl)) (fun _ _ _ h => h) (Or.inl ⟨by rfl, ?_⟩) ?_ ?_
                    rotate_left
                    · intro w'
                      go_simp
                      with_reducible rfl
                    rotate_left
                    · simp only [Act.put, List.setIfInBounds_toArray, List.set_cons_zero, List.set_cons_succ, i64_w, i32_w]
                      rfl
                    refine pure_ (i := 8) (N := some 49) (v := ?_) (a' := ?_) #[true, true, true, true, true, true, true, true, true, false, false, false, false, false, false, false, false, false, false, false, false, false, false, false, false, false, false, false, false, false, false, false, false, false, false, false, false, false, false, false, false, false, false, false, false, false, false, false, false] rfl rfl (any_of HT_.out (by kernel_rfl)) (fun _ _ _ h => h) (Or.inl ⟨by rfl, ?_⟩) ?_ ?_
                    rotate_left
                    · intro w'
                      go_simp
                      with_reducible rfl
                    rotate_left
                    · simp only [Act.put, List.setIfInBounds_toArray, List.set_cons_zero, List.set_cons_succ, i64_w, i32_w]
                      rfl
                    refine pure_ (i := 9) (N := some 50) (v := ?_) (a' := ?_) #[true, true, true, true, true, true, true, true, true, true, false, false, false, false, false, false, false, false, false, false, false, false, false, false, false, false, false, false, false, false, false, false, false, false, false, false, false, false, false, false, false, false, false, false, false, false, false, false, false] rfl rfl (any_of HT_.out (by kernel_rfl)) (fun _ _ _ h => h) (Or.inl ⟨by rfl, ?_⟩) ?_ ?_
                    rotate_left
                    · intro w'
                      go_simp
                      with_reducible rfl
                    rotate_left
                    · simp only [Act.put, List.setIfInBounds_toArray, List.set_cons_zero, List.set_cons_succ, i64_w, i32_w]
                      rfl
                    refine pure_ (i := 10) (N := some 51) (v := ?_) (a' := ?_) #[true, true, true, true, true, true, true, true, true, true, true, false, false, false, false, false, false, false, false, false, false, false, false, false, false, false, false, false, false, false, false, false, false, false, false, false, false, false, false, false, false, false, false, false, false, false, false, false, false] rfl rfl (any_of HT_.out (by kernel_rfl)) (fun _ _ _ h => h) (Or.inl ⟨by rfl, ?_⟩) ?_ ?_
                    rotate_left
                    · intro w'
                      go_simp
                      with_reducible rfl
                    rotate_left
                    · simp only [Act.put, List.setIfInBounds_toArray, List.set_cons_zero, List.set_cons_succ, i64_w, i32_w]
                      rfl
                    refine pure_ (i := 11) (N := some 52) (v := ?_) (a' := ?_) #[true, true, true, true, true, true, true, true, true, true, true, true, false, false, false, false, false, false, false, false, false, false, false, false, false, false, false, false, false, false, false, false, false, false, false, false, false, false, false, false, false, false, false, false, false, false, false, false, false] rfl rfl (any_of HT_.out (by kernel_rfl)) (fun _ _ _ h => h) (Or.inl ⟨by rfl, ?_⟩) ?_ ?_
                    rotate_left
                    · intro w'
                      go_simp
                      with_reducible rfl
                    rotate_left
                    · simp only [Act.put, List.setIfInBounds_toArray, List.set_cons_zero, List.set_cons_succ, i64_w, i32_w]
                      rfl
                    refine pure_ (i := 12) (N := some 53) (v := ?_) (a' := ?_) #[true, true, true, true, true, true, true, true, true, true, true, true, true, false, false, false, false, false, false, false, false, false, false, false, false, false, false, false, false, false, false, false, false, false, false, false, false, false, false, false, false, false, false, false, false, false, false, false, false] rfl rfl (any_of HT_.out (by kernel_rfl)) (fun _ _ _ h => h) (Or.inl ⟨by rfl, ?_⟩) ?_ ?_
                    rotate_left
                    · intro w'
                      go_simp
                      with_reducible rfl
                    rotate_left
                    · simp only [Act.put, List.setIfInBounds_toArray, List.set_cons_zero, List.set_cons_succ, i64_w, i32_w]
                      rfl
                    refine pure_ (i := 15) (N := some 56) (v := ?_) (a' := ?_) #[true, true, true, true, true, true, true, true, true, true, true, true, true, false, false, true, false, false, false, false, false, false, false, false, false, false, false, false, false, false, false, false, false, false, false, false, false, false, false, false, false, false, false, false, false, false, false, false, false] rfl rfl (any_of HT_.out (by kernel_rfl)) (fun _ _ _ h => h) (Or.inl ⟨by rfl, ?_⟩) ?_ ?_
                    rotate_left
                    · intro w'
                      go_simp
                      with_reducible rfl
                    rotate_left
                    · simp only [Act.put, List.setIfInBounds_toArray, List.set_cons_zero, List.set_cons_succ, i64_w, i32_w]
                      rfl
                    refine take_ (i := 13) (N := some 54) (v := ?_) (a' := ?_) #[true, true, true, true, true, true, true, true, true, true, true, true, true, true, false, true, false, false, false, false, false, false, false, false, false, false, false, false, false, false, false, false, false, false, false, false, false, false, false, false, false, false, false, false, false, false, false, false, false] rfl rfl (take_ofW HT_.out HW_.out (by kernel_rfl)) (fun _ _ _ h => h) (Or.inl ⟨by rfl, ?_⟩) hHeld ?_ ?_
                    rotate_left
                    · rintro w' ⟨s0, s1, s2, s3, s4, s5, s6, s7, s8, s9⟩
                      go_simp
                      with_reducible rfl
                    rotate_left
                    · simp only [Act.put, List.setIfInBounds_toArray, List.set_cons_zero, List.set_cons_succ, i64_w, i32_w]
                      rfl
                    refine take_ (i := 16) (N := some 57) (v := ?_) (a' := ?_) #[true, true, true, true, true, true, true, true, true, true, true, true, true, true, false, true, true, false, false, false, false, false, false, false, false, false, false, false, false, false, false, false, false, false, false, false, false, false, false, false, false, false, false, false, false, false, false, false, false] rfl rfl (take_ofW HT_.out HW_.out (by kernel_rfl)) (fun _ _ _ h => h) (Or.inl ⟨by rfl, ?_⟩) hHeld ?_ ?_
                    rotate_left
                    · rintro w' ⟨s0, s1, s2, s3, s4, s5, s6, s7, s8, s9⟩
                      go_simp
                      with_reducible rfl
                    rotate_left
                    · simp only [Act.put, List.setIfInBounds_toArray, List.set_cons_zero, List.set_cons_succ, i64_w, i32_w]
                      rfl
                    refine one_ (i := 14) (N := some 55) #[true, true, true, true, true, true, true, true, true, true, true, true, true, true, true, true, true, false, false, false, false, false, false, false, false, false, false, false, false, false, false, false, false, false, false, false, false, false, false, false, false, false, false, false, false, false, false, false, false] rfl rfl (one_of HT_.out (by kernel_rfl)) (by decide) (fun K hK => ?_)
                    refine goes_ Try.func65 (by kernel_rfl) rfl #[.slice A0 y343.length c0, .agg #[.string a1_0, .string a1_1]] (by rfl) rfl rfl (by (try simp only [List.map_toArray, List.map_cons, List.map_nil]); first | done | rfl | (simp only [List.length_drop, List.length_take]; rfl)) ?_
                    with_reducible refine (block_Put.calls k _ _ y343 a1_0 a1_1 t360 _ ?side1 ?side2 A17.out).mono ?_
                    (case side1 => repeat (first | exact (Kd.C_below HR346.out HB.out) | (with_reducible refine Kd.C_alloc ?_ _) | (with_reducible refine Kd.C_drewN ?_ _) | (with_reducible refine Kd.C_drew ?_)))
                    (case side2 => exact HC346.out)
                    rintro e w47 ⟨v361, rfl, ho0, hb⟩
                    refine ⟨_, rfl, ?_⟩
                    have n0_ := Aside0.mk (Kd.R_below (by (with_reducible repeat (first | apply Kd.R_alloc | apply Kd.R_drewN | apply Kd.R_drew)); exact HO355.out) hb)
                    have n1_ := Aside0.mk (Kd.R_elder' (by (with_reducible repeat (first | apply Kd.R_alloc | apply Kd.R_drewN | apply Kd.R_drew)); exact HO358.out) (Kd.R_base ho0) hb)
                    have n2_ := Aside0.mk (Kd.R_lower (Kd.R_newB (Kd.R_new' ho0 (Kd.R_lt (by (with_reducible repeat (first | apply Kd.R_alloc | apply Kd.R_drewN | apply Kd.R_drew)); exact HO358.out))) (g := gb340) (o := .cells #[.string a1_0, .string a1_1] 25 (0, 0)) (by (with_reducible repeat (first | refine blk_drewN ?_ _ | refine blk_drew ?_ | refine blk_alloc ?_ _)); exact BK340.out)) (below_size (by repeat (first | (with_reducible first | exact HB.out | apply below_alloc | apply pw_below_drewN | apply below_drew1 | refine below_set ?_ GE340.out | refine below_set ?_ GE341.out | refine below_set ?_ GE342.out) | exact HB.out))))
                    have n3_ := Aside0.mk (blk_below (g := gb340) (o := .cells #[.string a1_0, .string a1_1] 25 (0, 0)) (by (with_reducible repeat (first | refine blk_drewN ?_ _ | refine blk_drew ?_ | refine blk_alloc ?_ _)); exact BK340.out) hb)
                    have n4_ := Aside0.mk (blk_below (g := gb341) (o := .cells #[.string a2_0, .string a2_1] 48 (0, 0)) (by (with_reducible repeat (first | refine blk_drewN ?_ _ | refine blk_drew ?_ | refine blk_alloc ?_ _)); exact BK341.out) hb)
                    have n5_ := Aside0.mk (blk_below (g := gb342) (o := .cells #[.int .u8 a3_0, .int .i64 a3_1, .string a3_2, .string a3_3, .string a3_4, .int .u64 a3_5] 46 (0, 0)) (by (with_reducible repeat (first | refine blk_drewN ?_ _ | refine blk_drew ?_ | refine blk_alloc ?_ _)); exact BK342.out) hb)
                    have n6_ := Aside0.mk (below_step (by repeat (first | (with_reducible first | exact HB.out | apply below_alloc | apply pw_below_drewN | apply below_drew1 | refine below_set ?_ GE340.out | refine below_set ?_ GE341.out | refine below_set ?_ GE342.out) | exact HB.out)) hb)
                    clear HO355
                    clear HO358
                    clear BK340
                    clear BK341
                    clear BK342
                    clear HB
                    have HO355 := n0_
                    have HO358 := n1_
                    have HO362 := n2_
                    have BK340 := n3_
                    have BK341 := n4_
                    have BK342 := n5_
                    have HB := n6_
                    clear n0_ n1_ n2_ n3_ n4_ n5_ n6_
                    (try clear hb)
                    (try clear hb2)
                    (try clear hk)
                    (try clear hi)
                    (try clear ho0)
                    refine hK.out _ _ ⟨(blk_cell BK340.out 0).trans rfl, (blk_cell BK340.out 1).trans rfl, (blk_cell BK341.out 0).trans rfl, (blk_cell BK341.out 1).trans rfl, (blk_cell BK342.out 0).trans rfl, (blk_cell BK342.out 1).trans rfl, (blk_cell BK342.out 2).trans rfl, (blk_cell BK342.out 3).trans rfl, (blk_cell BK342.out 4).trans rfl, (blk_cell BK342.out 5).trans rfl⟩ (fun hHeld => ?_)
                    clear hK K
                    refine norm_ (a' := ?_) ?_ ?_
                    rotate_left
                    · show Act.put _ (some 55) _ = _
                      simp only [Act.put, List.setIfInBounds_toArray, List.set_cons_zero, List.set_cons_succ, i64_w, i32_w]
                      rfl
                    refine one_ (i := 17) (N := some 58) #[true, true, true, true, true, true, true, true, true, true, true, true, true, true, true, true, true, true, false, false, false, false, false, false, false, false, false, false, false, false, false, false, false, false, false, false, false, false, false, false, false, false, false, false, false, false, false, false, false] rfl rfl (one_of HT_.out (by kernel_rfl)) (by decide) (fun K hK => ?_)
                    refine goes_ Try.func66 (by kernel_rfl) rfl #[.slice A0 y343.length c0, .agg #[.string a1_0, .string a1_1]] (by rfl) rfl rfl (by (try simp only [List.map_toArray, List.map_cons, List.map_nil]); first | done | rfl | (simp only [List.length_drop, List.length_take]; rfl)) ?_
                    with_reducible refine (catchmentref10_Put.calls k _ _ y343 a1_0 a1_1 t363 _ ?side1 ?side2 A18.out).mono ?_
                    (case side1 => repeat (first | exact (Kd.C_below HR346.out HB.out) | (with_reducible refine Kd.C_alloc ?_ _) | (with_reducible refine Kd.C_drewN ?_ _) | (with_reducible refine Kd.C_drew ?_)))
                    (case side2 => exact HC346.out)
                    rintro e w48 ⟨v364, rfl, ho0, hb⟩
                    refine ⟨_, rfl, ?_⟩
                    have n0_ := Aside0.mk (Kd.R_below (by (with_reducible repeat (first | apply Kd.R_alloc | apply Kd.R_drewN | apply Kd.R_drew)); exact HO355.out) hb)
                    have n1_ := Aside0.mk (Kd.R_elder' (by (with_reducible repeat (first | apply Kd.R_alloc | apply Kd.R_drewN | apply Kd.R_drew)); exact HO358.out) (Kd.R_base ho0) hb)
                    have n2_ := Aside0.mk (Kd.R_elder' (by (with_reducible repeat (first | apply Kd.R_alloc | apply Kd.R_drewN | apply Kd.R_drew)); exact HO362.out) (Kd.R_base ho0) hb)
                    have n3_ := Aside0.mk (Kd.R_lower (Kd.R_newB (Kd.R_new' (Kd.R_new' ho0 (Kd.R_lt (by (with_reducible repeat (first | apply Kd.R_alloc | apply Kd.R_drewN | apply Kd.R_drew)); exact HO358.out))) (Kd.R_lt (by (with_reducible repeat (first | apply Kd.R_alloc | apply Kd.R_drewN | apply Kd.R_drew)); exact HO362.out))) (g := gb340) (o := .cells #[.string a1_0, .string a1_1] 25 (0, 0)) (by (with_reducible repeat (first | refine blk_drewN ?_ _ | refine blk_drew ?_ | refine blk_alloc ?_ _)); exact BK340.out)) (below_size (by repeat (first | (with_reducible first | exact HB.out | apply below_alloc | apply pw_below_drewN | apply below_drew1 | refine below_set ?_ GE340.out | refine below_set ?_ GE341.out | refine below_set ?_ GE342.out) | exact HB.out))))
                    have n4_ := Aside0.mk (blk_below (g := gb340) (o := .cells #[.string a1_0, .string a1_1] 25 (0, 0)) (by (with_reducible repeat (first | refine blk_drewN ?_ _ | refine blk_drew ?_ | refine blk_alloc ?_ _)); exact BK340.out) hb)
                    have n5_ := Aside0.mk (blk_below (g := gb341) (o := .cells #[.string a2_0, .string a2_1] 48 (0, 0)) (by (with_reducible repeat (first | refine blk_drewN ?_ _ | refine blk_drew ?_ | refine blk_alloc ?_ _)); exact BK341.out) hb)
                    have n6_ := Aside0.mk (blk_below (g := gb342) (o := .cells #[.int .u8 a3_0, .int .i64 a3_1, .string a3_2, .string a3_3, .string a3_4, .int .u64 a3_5] 46 (0, 0)) (by (with_reducible repeat (first | refine blk_drewN ?_ _ | refine blk_drew ?_ | refine blk_alloc ?_ _)); exact BK342.out) hb)
                    have n7_ := Aside0.mk (below_step (by repeat (first | (with_reducible first | exact HB.out | apply below_alloc | apply pw_below_drewN | apply below_drew1 | refine below_set ?_ GE340.out | refine below_set ?_ GE341.out | refine below_set ?_ GE342.out) | exact HB.out)) hb)
                    clear HO355
                    clear HO358
                    clear HO362
                    clear BK340
                    clear BK341
                    clear BK342
                    clear HB
                    have HO355 := n0_
                    have HO358 := n1_
                    have HO362 := n2_
                    have HO365 := n3_
                    have BK340 := n4_
                    have BK341 := n5_
                    have BK342 := n6_
                    have HB := n7_
                    clear n0_ n1_ n2_ n3_ n4_ n5_ n6_ n7_
                    (try clear hb)
                    (try clear hb2)
                    (try clear hk)
                    (try clear hi)
                    (try clear ho0)
                    obtain ⟨Ao49, co49, eo49⟩ := Kd.R_slice HO362.out
                    (first | subst eo49 | (injection eo49 with f1_ f2_ f3_; have f4_ := f1_.symm; have f5_ := f3_.symm; clear f1_ f2_ f3_; subst f4_; subst f5_))
                    obtain ⟨Ao50, co50, eo50⟩ := Kd.R_slice HO365.out
                    (first | subst eo50 | (injection eo50 with f1_ f2_ f3_; have f4_ := f1_.symm; have f5_ := f3_.symm; clear f1_ f2_ f3_; subst f4_; subst f5_))
                    refine hK.out _ _ ⟨(blk_cell BK340.out 0).trans rfl, (blk_cell BK340.out 1).trans rfl, (blk_cell BK341.out 0).trans rfl, (blk_cell BK341.out 1).trans rfl, (blk_cell BK342.out 0).trans rfl, (blk_cell BK342.out 1).trans rfl, (blk_cell BK342.out 2).trans rfl, (blk_cell BK342.out 3).trans rfl, (blk_cell BK342.out 4).trans rfl, (blk_cell BK342.out 5).trans rfl⟩ (fun hHeld => ?_)
                    clear hK K
                    refine norm_ (a' := ?_) ?_ ?_
                    rotate_left
                    · show Act.put _ (some 58) _ = _
                      simp only [Act.put, List.setIfInBounds_toArray, List.set_cons_zero, List.set_cons_succ, i64_w, i32_w]
                      rfl
                    refine one_ (i := 18) (N := some 59) #[true, true, true, true, true, true, true, true, true, true, true, true, true, true, true, true, true, true, true, false, false, false, false, false, false, false, false, false, false, false, false, false, false, false, false, false, false, false, false, false, false, false, false, false, false, false, false, false, false] rfl rfl (one_of HT_.out (by kernel_rfl)) (by decide) (fun K hK => ?_)
                    refine goes_ Try.func21 (by kernel_rfl) rfl #[.slice Ao49 t360.length co49, .slice Ao50 t363.length co50] (by rfl) rfl rfl (by (try simp only [List.map_toArray, List.map_cons, List.map_nil]); first | done | rfl | (simp only [List.length_drop, List.length_take]; rfl)) ?_
                    with_reducible refine (catchmentref05_Same.calls k _ _ t360 _ _ t363 true _ ?side1 ?side2 ?side3 ?side4 A19.out).mono ?_
                    (case side1 => repeat (first | exact (Kd.R_reads' HO362.out).2.2 | (with_reducible refine Kd.C_alloc ?_ _) | (with_reducible refine Kd.C_drewN ?_ _) | (with_reducible refine Kd.C_drew ?_)))
                    (case side2 => exact (Kd.R_reads' HO362.out).2.1)
                    (case side3 => repeat (first | exact (Kd.R_reads' HO365.out).2.2 | (with_reducible refine Kd.C_alloc ?_ _) | (with_reducible refine Kd.C_drewN ?_ _) | (with_reducible refine Kd.C_drew ?_)))
                    (case side4 => exact (Kd.R_reads' HO365.out).2.1)
                    rintro e w' ⟨rfl, ⟨nd, rfl⟩⟩
                    refine ⟨_, rfl, ?_⟩
                    refine hK.out _ _ ⟨(blk_cell BK340.out 0).trans rfl, (blk_cell BK340.out 1).trans rfl, (blk_cell BK341.out 0).trans rfl, (blk_cell BK341.out 1).trans rfl, (blk_cell BK342.out 0).trans rfl, (blk_cell BK342.out 1).trans rfl, (blk_cell BK342.out 2).trans rfl, (blk_cell BK342.out 3).trans rfl, (blk_cell BK342.out 4).trans rfl, (blk_cell BK342.out 5).trans rfl⟩ (fun hHeld => ?_)
                    clear hK K
                    refine norm_ (a' := ?_) ?_ ?_
                    rotate_left
                    · show Act.put _ (some 59) _ = _
                      simp only [Act.put, List.setIfInBounds_toArray, List.set_cons_zero, List.set_cons_succ, i64_w, i32_w]
                      rfl
                    refine pure_ (i := 19) (N := some 60) (v := ?_) (a' := ?_) #[true, true, true, true, true, true, true, true, true, true, true, true, true, true, true, true, true, true, true, true, false, false, false, false, false, false, false, false, false, false, false, false, false, false, false, false, false, false, false, false, false, false, false, false, false, false, false, false, false] rfl rfl (any_of HT_.out (by kernel_rfl)) (fun _ _ _ h => h) (Or.inl ⟨by rfl, ?_⟩) ?_ ?_
                    rotate_left
                    · intro w'
                      go_simp
                      with_reducible rfl
                    rotate_left
                    · simp only [Act.put, List.setIfInBounds_toArray, List.set_cons_zero, List.set_cons_succ, i64_w, i32_w]
                      rfl
                    refine pure_ (i := 20) (N := some 61) (v := ?_) (a' := ?_) #[true, true, true, true, true, true, true, true, true, true, true, true, true, true, true, true, true, true, true, true, true, false, false, false, false, false, false, false, false, false, false, false, false, false, false, false, false, false, false, false, false, false, false, false, false, false, false, false, false] rfl rfl (any_of HT_.out (by kernel_rfl)) (fun _ _ _ h => h) (Or.inl ⟨by rfl, ?_⟩) ?_ ?_
                    rotate_left
                    · intro w'
                      go_simp
                      with_reducible rfl
                    rotate_left
                    · simp only [Act.put, List.setIfInBounds_toArray, List.set_cons_zero, List.set_cons_succ, i64_w, i32_w]
                      rfl
                    refine pure_ (i := 21) (N := some 62) (v := ?_) (a' := ?_) #[true, true, true, true, true, true, true, true, true, true, true, true, true, true, true, true, true, true, true, true, true, true, false, false, false, false, false, false, false, false, false, false, false, false, false, false, false, false, false, false, false, false, false, false, false, false, false, false, false] rfl rfl (any_of HT_.out (by kernel_rfl)) (fun _ _ _ h => h) (Or.inl ⟨by rfl, ?_⟩) ?_ ?_
                    rotate_left
                    · intro w'
                      go_simp
                      with_reducible rfl
                    rotate_left
                    · simp only [Act.put, List.setIfInBounds_toArray, List.set_cons_zero, List.set_cons_succ, i64_w, i32_w]
                      rfl
                    refine pure_ (i := 22) (N := some 63) (v := ?_) (a' := ?_) #[true, true, true, true, true, true, true, true, true, true, true, true, true, true, true, true, true, true, true, true, true, true, true, false, false, false, false, false, false, false, false, false, false, false, false, false, false, false, false, false, false, false, false, false, false, false, false, false, false] rfl rfl (any_of HT_.out (by kernel_rfl)) (fun _ _ _ h => h) (Or.inl ⟨by rfl, ?_⟩) ?_ ?_
                    rotate_left
                    · intro w'
                      go_simp
                      with_reducible rfl
                    rotate_left
                    · simp only [Act.put, List.setIfInBounds_toArray, List.set_cons_zero, List.set_cons_succ, i64_w, i32_w]
                      rfl
                    refine pure_ (i := 25) (N := some 66) (v := ?_) (a' := ?_) #[true, true, true, true, true, true, true, true, true, true, true, true, true, true, true, true, true, true, true, true, true, true, true, false, false, true, false, false, false, false, false, false, false, false, false, false, false, false, false, false, false, false, false, false, false, false, false, false, false] rfl rfl (any_of HT_.out (by kernel_rfl)) (fun _ _ _ h => h) (Or.inl ⟨by rfl, ?_⟩) ?_ ?_
                    rotate_left
                    · intro w'
                      go_simp
                      with_reducible rfl
                    rotate_left
                    · simp only [Act.put, List.setIfInBounds_toArray, List.set_cons_zero, List.set_cons_succ, i64_w, i32_w]
                      rfl
                    refine take_ (i := 23) (N := some 64) (v := ?_) (a' := ?_) #[true, true, true, true, true, true, true, true, true, true, true, true, true, true, true, true, true, true, true, true, true, true, true, true, false, true, false, false, false, false, false, false, false, false, false, false, false, false, false, false, false, false, false, false, false, false, false, false, false] rfl rfl (take_ofW HT_.out HW_.out (by kernel_rfl)) (fun _ _ _ h => h) (Or.inl ⟨by rfl, ?_⟩) hHeld ?_ ?_
                    rotate_left
                    · rintro w' ⟨s0, s1, s2, s3, s4, s5, s6, s7, s8, s9⟩
                      go_simp
                      with_reducible rfl
                    rotate_left
                    · simp only [Act.put, List.setIfInBounds_toArray, List.set_cons_zero, List.set_cons_succ, i64_w, i32_w]
                      rfl
                    refine one_ (i := 24) (N := some 65) #[true, true, true, true, true, true, true, true, true, true, true, true, true, true, true, true, true, true, true, true, true, true, true, true, true, true, false, false, false, false, false, false, false, false, false, false, false, false, false, false, false, false, false, false, false, false, false, false, false] rfl rfl (one_of HT_.out (by kernel_rfl)) (by decide) (fun K hK => ?_)
                    refine goes_ Try.func67 (by kernel_rfl) rfl #[.slice A0 y343.length c0, .string a1_0] (by rfl) rfl rfl (by (try simp only [List.map_toArray, List.map_cons, List.map_nil]); first | done | rfl | (simp only [List.length_drop, List.length_take]; rfl)) ?_
                    with_reducible refine (block_Drop.calls k _ _ y343 a1_0 t367 _ ?side1 ?side2 A21.out).mono ?_
                    (case side1 => repeat (first | exact (Kd.C_below HR346.out (by repeat (first | (with_reducible first | exact HB.out | apply below_alloc | apply pw_below_drewN | apply below_drew1 | refine below_set ?_ GE340.out | refine below_set ?_ GE341.out | refine below_set ?_ GE342.out) | exact HB.out))) | (with_reducible refine Kd.C_alloc ?_ _) | (with_reducible refine Kd.C_drewN ?_ _) | (with_reducible refine Kd.C_drew ?_)))
                    (case side2 => exact HC346.out)
                    rintro e w51 ⟨v368, rfl, ho0, hb⟩
                    refine ⟨_, rfl, ?_⟩
                    have n0_ := Aside0.mk (Kd.R_below (by (with_reducible repeat (first | apply Kd.R_alloc | apply Kd.R_drewN | apply Kd.R_drew)); exact HO355.out) hb)
                    have n1_ := Aside0.mk (Kd.R_elder' (by (with_reducible repeat (first | apply Kd.R_alloc | apply Kd.R_drewN | apply Kd.R_drew)); exact HO358.out) (Kd.R_base ho0) hb)
                    have n2_ := Aside0.mk (Kd.R_elder' (by (with_reducible repeat (first | apply Kd.R_alloc | apply Kd.R_drewN | apply Kd.R_drew)); exact HO362.out) (Kd.R_base ho0) hb)
                    have n3_ := Aside0.mk (Kd.R_elder' (by (with_reducible repeat (first | apply Kd.R_alloc | apply Kd.R_drewN | apply Kd.R_drew)); exact HO365.out) (Kd.R_base ho0) hb)
                    have n4_ := Aside0.mk (Kd.R_lower (Kd.R_newB (Kd.R_new' (Kd.R_new' (Kd.R_new' ho0 (Kd.R_lt (by (with_reducible repeat (first | apply Kd.R_alloc | apply Kd.R_drewN | apply Kd.R_drew)); exact HO358.out))) (Kd.R_lt (by (with_reducible repeat (first | apply Kd.R_alloc | apply Kd.R_drewN | apply Kd.R_drew)); exact HO362.out))) (Kd.R_lt (by (with_reducible repeat (first | apply Kd.R_alloc | apply Kd.R_drewN | apply Kd.R_drew)); exact HO365.out))) (g := gb340) (o := .cells #[.string a1_0, .string a1_1] 25 (0, 0)) (by (with_reducible repeat (first | refine blk_drewN ?_ _ | refine blk_drew ?_ | refine blk_alloc ?_ _)); exact BK340.out)) (below_size (by repeat (first | (with_reducible first | exact HB.out | apply below_alloc | apply pw_below_drewN | apply below_drew1 | refine below_set ?_ GE340.out | refine below_set ?_ GE341.out | refine below_set ?_ GE342.out) | exact HB.out))))
                    have n5_ := Aside0.mk (blk_below (g := gb340) (o := .cells #[.string a1_0, .string a1_1] 25 (0, 0)) (by (with_reducible repeat (first | refine blk_drewN ?_ _ | refine blk_drew ?_ | refine blk_alloc ?_ _)); exact BK340.out) hb)
                    have n6_ := Aside0.mk (blk_below (g := gb341) (o := .cells #[.string a2_0, .string a2_1] 48 (0, 0)) (by (with_reducible repeat (first | refine blk_drewN ?_ _ | refine blk_drew ?_ | refine blk_alloc ?_ _)); exact BK341.out) hb)
                    have n7_ := Aside0.mk (blk_below (g := gb342) (o := .cells #[.int .u8 a3_0, .int .i64 a3_1, .string a3_2, .string a3_3, .string a3_4, .int .u64 a3_5] 46 (0, 0)) (by (with_reducible repeat (first | refine blk_drewN ?_ _ | refine blk_drew ?_ | refine blk_alloc ?_ _)); exact BK342.out) hb)
                    have n8_ := Aside0.mk (below_step (by repeat (first | (with_reducible first | exact HB.out | apply below_alloc | apply pw_below_drewN | apply below_drew1 | refine below_set ?_ GE340.out | refine below_set ?_ GE341.out | refine below_set ?_ GE342.out) | exact HB.out)) hb)
                    clear HO355
                    clear HO358
                    clear HO362
                    clear HO365
                    clear BK340
                    clear BK341
                    clear BK342
                    clear HB
                    have HO355 := n0_
                    have HO358 := n1_
                    have HO362 := n2_
                    have HO365 := n3_
                    have HO369 := n4_
                    have BK340 := n5_
                    have BK341 := n6_
                    have BK342 := n7_
                    have HB := n8_
                    clear n0_ n1_ n2_ n3_ n4_ n5_ n6_ n7_ n8_
                    (try clear hb)
                    (try clear hb2)
                    (try clear hk)
                    (try clear hi)
                    (try clear ho0)
                    obtain ⟨Ao52, co52, eo52⟩ := Kd.R_slice HO369.out
                    (first | subst eo52 | (injection eo52 with f1_ f2_ f3_; have f4_ := f1_.symm; have f5_ := f3_.symm; clear f1_ f2_ f3_; subst f4_; subst f5_))
                    refine hK.out _ _ ⟨(blk_cell BK340.out 0).trans rfl, (blk_cell BK340.out 1).trans rfl, (blk_cell BK341.out 0).trans rfl, (blk_cell BK341.out 1).trans rfl, (blk_cell BK342.out 0).trans rfl, (blk_cell BK342.out 1).trans rfl, (blk_cell BK342.out 2).trans rfl, (blk_cell BK342.out 3).trans rfl, (blk_cell BK342.out 4).trans rfl, (blk_cell BK342.out 5).trans rfl⟩ (fun hHeld => ?_)
                    clear hK K
                    refine norm_ (a' := ?_) ?_ ?_
                    rotate_left
                    · show Act.put _ (some 65) _ = _
                      simp only [Act.put, List.setIfInBounds_toArray, List.set_cons_zero, List.set_cons_succ, i64_w, i32_w]
                      rfl
                    refine one_ (i := 26) (N := some 67) #[true, true, true, true, true, true, true, true, true, true, true, true, true, true, true, true, true, true, true, true, true, true, true, true, true, true, true, false, false, false, false, false, false, false, false, false, false, false, false, false, false, false, false, false, false, false, false, false, false] rfl rfl (one_of HT_.out (by kernel_rfl)) (by decide) (fun K hK => ?_)
                    refine goes_ Try.func21 (by kernel_rfl) rfl #[.slice Ao52 t367.length co52, .slice Ao44 t356.length co44] (by rfl) rfl rfl (by (try simp only [List.map_toArray, List.map_cons, List.map_nil]); first | done | rfl | (simp only [List.length_drop, List.length_take]; rfl)) ?_
                    with_reducible refine (catchmentref05_Same.calls k _ _ t367 _ _ t356 true _ ?side1 ?side2 ?side3 ?side4 A22.out).mono ?_
                    (case side1 => repeat (first | exact (Kd.R_reads' HO369.out).2.2 | (with_reducible refine Kd.C_alloc ?_ _) | (with_reducible refine Kd.C_drewN ?_ _) | (with_reducible refine Kd.C_drew ?_)))
                    (case side2 => exact (Kd.R_reads' HO369.out).2.1)
                    (case side3 => repeat (first | exact (Kd.R_reads' HO358.out).2.2 | (with_reducible refine Kd.C_alloc ?_ _) | (with_reducible refine Kd.C_drewN ?_ _) | (with_reducible refine Kd.C_drew ?_)))
                    (case side4 => exact (Kd.R_reads' HO358.out).2.1)
                    rintro e w' ⟨rfl, ⟨nd, rfl⟩⟩
                    refine ⟨_, rfl, ?_⟩
                    refine hK.out _ _ ⟨(blk_cell BK340.out 0).trans rfl, (blk_cell BK340.out 1).trans rfl, (blk_cell BK341.out 0).trans rfl, (blk_cell BK341.out 1).trans rfl, (blk_cell BK342.out 0).trans rfl, (blk_cell BK342.out 1).trans rfl, (blk_cell BK342.out 2).trans rfl, (blk_cell BK342.out 3).trans rfl, (blk_cell BK342.out 4).trans rfl, (blk_cell BK342.out 5).trans rfl⟩ (fun hHeld => ?_)
                    clear hK K
                    refine norm_ (a' := ?_) ?_ ?_
                    rotate_left
                    · show Act.put _ (some 67) _ = _
                      simp only [Act.put, List.setIfInBounds_toArray, List.set_cons_zero, List.set_cons_succ, i64_w, i32_w]
                      rfl
                    refine pure_ (i := 27) (N := some 68) (v := ?_) (a' := ?_) #[true, true, true, true, true, true, true, true, true, true, true, true, true, true, true, true, true, true, true, true, true, true, true, true, true, true, true, true, false, false, false, false, false, false, false, false, false, false, false, false, false, false, false, false, false, false, false, false, false] rfl rfl (any_of HT_.out (by kernel_rfl)) (fun _ _ _ h => h) (Or.inl ⟨by rfl, ?_⟩) ?_ ?_
                    rotate_left
                    · intro w'
                      go_simp
                      with_reducible rfl
                    rotate_left
                    · simp only [Act.put, List.setIfInBounds_toArray, List.set_cons_zero, List.set_cons_succ, i64_w, i32_w]
                      rfl
                    refine pure_ (i := 28) (N := some 69) (v := ?_) (a' := ?_) #[true, true, true, true, true, true, true, true, true, true, true, true, true, true, true, true, true, true, true, true, true, true, true, true, true, true, true, true, true, false, false, false, false, false, false, false, false, false, false, false, false, false, false, false, false, false, false, false, false] rfl rfl (any_of HT_.out (by kernel_rfl)) (fun _ _ _ h => h) (Or.inl ⟨by rfl, ?_⟩) ?_ ?_
                    rotate_left
                    · intro w'
                      go_simp
                      with_reducible rfl
                    rotate_left
                    · simp only [Act.put, List.setIfInBounds_toArray, List.set_cons_zero, List.set_cons_succ, i64_w, i32_w]
                      rfl
                    refine pure_ (i := 29) (N := some 70) (v := ?_) (a' := ?_) #[true, true, true, true, true, true, true, true, true, true, true, true, true, true, true, true, true, true, true, true, true, true, true, true, true, true, true, true, true, true, false, false, false, false, false, false, false, false, false, false, false, false, false, false, false, false, false, false, false] rfl rfl (any_of HT_.out (by kernel_rfl)) (fun _ _ _ h => h) (Or.inl ⟨by rfl, ?_⟩) ?_ ?_
                    rotate_left
                    · intro w'
                      go_simp
                      with_reducible rfl
                    rotate_left
                    · simp only [Act.put, List.setIfInBounds_toArray, List.set_cons_zero, List.set_cons_succ, i64_w, i32_w]
                      rfl
                    refine pure_ (i := 32) (N := some 73) (v := ?_) (a' := ?_) #[true, true, true, true, true, true, true, true, true, true, true, true, true, true, true, true, true, true, true, true, true, true, true, true, true, true, true, true, true, true, false, false, true, false, false, false, false, false, false, false, false, false, false, false, false, false, false, false, false] rfl rfl (any_of HT_.out (by kernel_rfl)) (fun _ _ _ h => h) (Or.inl ⟨by rfl, ?_⟩) ?_ ?_
                    rotate_left
                    · intro w'
                      go_simp
                      with_reducible rfl
                    rotate_left
                    · simp only [Act.put, List.setIfInBounds_toArray, List.set_cons_zero, List.set_cons_succ, i64_w, i32_w]
                      rfl
                    refine take_ (i := 30) (N := some 71) (v := ?_) (a' := ?_) #[true, true, true, true, true, true, true, true, true, true, true, true, true, true, true, true, true, true, true, true, true, true, true, true, true, true, true, true, true, true, true, false, true, false, false, false, false, false, false, false, false, false, false, false, false, false, false, false, false] rfl rfl (take_ofW HT_.out HW_.out (by kernel_rfl)) (fun _ _ _ h => h) (Or.inl ⟨by rfl, ?_⟩) hHeld ?_ ?_
                    rotate_left
                    · rintro w' ⟨s0, s1, s2, s3, s4, s5, s6, s7, s8, s9⟩
                      go_simp
                      with_reducible rfl
                    rotate_left
                    · simp only [Act.put, List.setIfInBounds_toArray, List.set_cons_zero, List.set_cons_succ, i64_w, i32_w]
                      rfl
                    refine take_ (i := 33) (N := some 74) (v := ?_) (a' := ?_) #[true, true, true, true, true, true, true, true, true, true, true, true, true, true, true, true, true, true, true, true, true, true, true, true, true, true, true, true, true, true, true, false, true, true, false, false, false, false, false, false, false, false, false, false, false, false, false, false, false] rfl rfl (take_ofW HT_.out HW_.out (by kernel_rfl)) (fun _ _ _ h => h) (Or.inl ⟨by rfl, ?_⟩) hHeld ?_ ?_
                    rotate_left
                    · rintro w' ⟨s0, s1, s2, s3, s4, s5, s6, s7, s8, s9⟩
                      go_simp
                      with_reducible rfl
                    rotate_left
                    · simp only [Act.put, List.setIfInBounds_toArray, List.set_cons_zero, List.set_cons_succ, i64_w, i32_w]
                      rfl
                    refine one_ (i := 31) (N := some 72) #[true, true, true, true, true, true, true, true, true, true, true, true, true, true, true, true, true, true, true, true, true, true, true, true, true, true, true, true, true, true, true, true, true, true, false, false, false, false, false, false, false, false, false, false, false, false, false, false, false] rfl rfl (one_of HT_.out (by kernel_rfl)) (by decide) (fun K hK => ?_)
                    refine goes_ Try.func68 (by kernel_rfl) rfl #[.slice A0 y343.length c0, .agg #[.string a2_0, .string a2_1]] (by rfl) rfl rfl (by (try simp only [List.map_toArray, List.map_cons, List.map_nil]); first | done | rfl | (simp only [List.length_drop, List.length_take]; rfl)) ?_
                    with_reducible refine (block_Cut.calls k _ _ y343 a2_0 a2_1 t371 _ ?side1 ?side2 A24.out).mono ?_
                    (case side1 => repeat (first | exact (Kd.C_below HR346.out (by repeat (first | (with_reducible first | exact HB.out | apply below_alloc | apply pw_below_drewN | apply below_drew1 | refine below_set ?_ GE340.out | refine below_set ?_ GE341.out | refine below_set ?_ GE342.out) | exact HB.out))) | (with_reducible refine Kd.C_alloc ?_ _) | (with_reducible refine Kd.C_drewN ?_ _) | (with_reducible refine Kd.C_drew ?_)))
                    (case side2 => exact HC346.out)
                    rintro e w53 ⟨v372, rfl, ho0, hb⟩
                    refine ⟨_, rfl, ?_⟩
                    have n0_ := Aside0.mk (Kd.R_below (by (with_reducible repeat (first | apply Kd.R_alloc | apply Kd.R_drewN | apply Kd.R_drew)); exact HO355.out) hb)
                    have n1_ := Aside0.mk (Kd.R_elder' (by (with_reducible repeat (first | apply Kd.R_alloc | apply Kd.R_drewN | apply Kd.R_drew)); exact HO358.out) (Kd.R_base ho0) hb)
                    have n2_ := Aside0.mk (Kd.R_elder' (by (with_reducible repeat (first | apply Kd.R_alloc | apply Kd.R_drewN | apply Kd.R_drew)); exact HO362.out) (Kd.R_base ho0) hb)
                    have n3_ := Aside0.mk (Kd.R_elder' (by (with_reducible repeat (first | apply Kd.R_alloc | apply Kd.R_drewN | apply Kd.R_drew)); exact HO365.out) (Kd.R_base ho0) hb)
                    have n4_ := Aside0.mk (Kd.R_elder' (by (with_reducible repeat (first | apply Kd.R_alloc | apply Kd.R_drewN | apply Kd.R_drew)); exact HO369.out) (Kd.R_base ho0) hb)
                    have n5_ := Aside0.mk (Kd.R_lower (Kd.R_newB (Kd.R_new' (Kd.R_new' (Kd.R_new' (Kd.R_new' ho0 (Kd.R_lt (by (with_reducible repeat (first | apply Kd.R_alloc | apply Kd.R_drewN | apply Kd.R_drew)); exact HO358.out))) (Kd.R_lt (by (with_reducible repeat (first | apply Kd.R_alloc | apply Kd.R_drewN | apply Kd.R_drew)); exact HO362.out))) (Kd.R_lt (by (with_reducible repeat (first | apply Kd.R_alloc | apply Kd.R_drewN | apply Kd.R_drew)); exact HO365.out))) (Kd.R_lt (by (with_reducible repeat (first | apply Kd.R_alloc | apply Kd.R_drewN | apply Kd.R_drew)); exact HO369.out))) (g := gb340) (o := .cells #[.string a1_0, .string a1_1] 25 (0, 0)) (by (with_reducible repeat (first | refine blk_drewN ?_ _ | refine blk_drew ?_ | refine blk_alloc ?_ _)); exact BK340.out)) (below_size (by repeat (first | (with_reducible first | exact HB.out | apply below_alloc | apply pw_below_drewN | apply below_drew1 | refine below_set ?_ GE340.out | refine below_set ?_ GE341.out | refine below_set ?_ GE342.out) | exact HB.out))))
                    have n6_ := Aside0.mk (blk_below (g := gb340) (o := .cells #[.string a1_0, .string a1_1] 25 (0, 0)) (by (with_reducible repeat (first | refine blk_drewN ?_ _ | refine blk_drew ?_ | refine blk_alloc ?_ _)); exact BK340.out) hb)
                    have n7_ := Aside0.mk (blk_below (g := gb341) (o := .cells #[.string a2_0, .string a2_1] 48 (0, 0)) (by (with_reducible repeat (first | refine blk_drewN ?_ _ | refine blk_drew ?_ | refine blk_alloc ?_ _)); exact BK341.out) hb)
                    have n8_ := Aside0.mk (blk_below (g := gb342) (o := .cells #[.int .u8 a3_0, .int .i64 a3_1, .string a3_2, .string a3_3, .string a3_4, .int .u64 a3_5] 46 (0, 0)) (by (with_reducible repeat (first | refine blk_drewN ?_ _ | refine blk_drew ?_ | refine blk_alloc ?_ _)); exact BK342.out) hb)
                    have n9_ := Aside0.mk (below_step (by repeat (first | (with_reducible first | exact HB.out | apply below_alloc | apply pw_below_drewN | apply below_drew1 | refine below_set ?_ GE340.out | refine below_set ?_ GE341.out | refine below_set ?_ GE342.out) | exact HB.out)) hb)
                    clear HO355
                    clear HO358
                    clear HO362
                    clear HO365
                    clear HO369
                    clear BK340
                    clear BK341
                    clear BK342
                    clear HB
                    have HO355 := n0_
                    have HO358 := n1_
                    have HO362 := n2_
                    have HO365 := n3_
                    have HO369 := n4_
                    have HO373 := n5_
                    have BK340 := n6_
                    have BK341 := n7_
                    have BK342 := n8_
                    have HB := n9_
                    clear n0_ n1_ n2_ n3_ n4_ n5_ n6_ n7_ n8_ n9_
                    (try clear hb)
                    (try clear hb2)
                    (try clear hk)
                    (try clear hi)
                    (try clear ho0)
                    refine hK.out _ _ ⟨(blk_cell BK340.out 0).trans rfl, (blk_cell BK340.out 1).trans rfl, (blk_cell BK341.out 0).trans rfl, (blk_cell BK341.out 1).trans rfl, (blk_cell BK342.out 0).trans rfl, (blk_cell BK342.out 1).trans rfl, (blk_cell BK342.out 2).trans rfl, (blk_cell BK342.out 3).trans rfl, (blk_cell BK342.out 4).trans rfl, (blk_cell BK342.out 5).trans rfl⟩ (fun hHeld => ?_)
                    clear hK K
                    refine norm_ (a' := ?_) ?_ ?_
                    rotate_left
                    · show Act.put _ (some 72) _ = _
                      simp only [Act.put, List.setIfInBounds_toArray, List.set_cons_zero, List.set_cons_succ, i64_w, i32_w]
                      rfl
                    refine one_ (i := 34) (N := some 75) #[true, true, true, true, true, true, true, true, true, true, true, true, true, true, true, true, true, true, true, true, true, true, true, true, true, true, true, true, true, true, true, true, true, true, true, false, false, false, false, false, false, false, false, false, false, false, false, false, false] rfl rfl (one_of HT_.out (by kernel_rfl)) (by decide) (fun K hK => ?_)
                    refine goes_ Try.func69 (by kernel_rfl) rfl #[.slice A0 y343.length c0, .agg #[.string a2_0, .string a2_1]] (by rfl) rfl rfl (by (try simp only [List.map_toArray, List.map_cons, List.map_nil]); first | done | rfl | (simp only [List.length_drop, List.length_take]; rfl)) ?_
                    with_reducible refine (catchmentref10_Cut.calls k _ _ y343 a2_0 a2_1 t374 _ ?side1 ?side2 A25.out).mono ?_
                    (case side1 => repeat (first | exact (Kd.C_below HR346.out HB.out) | (with_reducible refine Kd.C_alloc ?_ _) | (with_reducible refine Kd.C_drewN ?_ _) | (with_reducible refine Kd.C_drew ?_)))
                    (case side2 => exact HC346.out)
                    rintro e w54 ⟨v375, rfl, ho0, hb⟩
                    refine ⟨_, rfl, ?_⟩
                    have n0_ := Aside0.mk (Kd.R_below (by (with_reducible repeat (first | apply Kd.R_alloc | apply Kd.R_drewN | apply Kd.R_drew)); exact HO355.out) hb)
                    have n1_ := Aside0.mk (Kd.R_elder' (by (with_reducible repeat (first | apply Kd.R_alloc | apply Kd.R_drewN | apply Kd.R_drew)); exact HO358.out) (Kd.R_base ho0) hb)
                    have n2_ := Aside0.mk (Kd.R_elder' (by (with_reducible repeat (first | apply Kd.R_alloc | apply Kd.R_drewN | apply Kd.R_drew)); exact HO362.out) (Kd.R_base ho0) hb)
                    have n3_ := Aside0.mk (Kd.R_elder' (by (with_reducible repeat (first | apply Kd.R_alloc | apply Kd.R_drewN | apply Kd.R_drew)); exact HO365.out) (Kd.R_base ho0) hb)
                    have n4_ := Aside0.mk (Kd.R_elder' (by (with_reducible repeat (first | apply Kd.R_alloc | apply Kd.R_drewN | apply Kd.R_drew)); exact HO369.out) (Kd.R_base ho0) hb)
                    have n5_ := Aside0.mk (Kd.R_elder' (by (with_reducible repeat (first | apply Kd.R_alloc | apply Kd.R_drewN | apply Kd.R_drew)); exact HO373.out) (Kd.R_base ho0) hb)
                    have n6_ := Aside0.mk (Kd.R_lower (Kd.R_newB (Kd.R_new' (Kd.R_new' (Kd.R_new' (Kd.R_new' (Kd.R_new' ho0 (Kd.R_lt (by (with_reducible repeat (first | apply Kd.R_alloc | apply Kd.R_drewN | apply Kd.R_drew)); exact HO358.out))) (Kd.R_lt (by (with_reducible repeat (first | apply Kd.R_alloc | apply Kd.R_drewN | apply Kd.R_drew)); exact HO362.out))) (Kd.R_lt (by (with_reducible repeat (first | apply Kd.R_alloc | apply Kd.R_drewN | apply Kd.R_drew)); exact HO365.out))) (Kd.R_lt (by (with_reducible repeat (first | apply Kd.R_alloc | apply Kd.R_drewN | apply Kd.R_drew)); exact HO369.out))) (Kd.R_lt (by (with_reducible repeat (first | apply Kd.R_alloc | apply Kd.R_drewN | apply Kd.R_drew)); exact HO373.out))) (g := gb340) (o := .cells #[.string a1_0, .string a1_1] 25 (0, 0)) (by (with_reducible repeat (first | refine blk_drewN ?_ _ | refine blk_drew ?_ | refine blk_alloc ?_ _)); exact BK340.out)) (below_size (by repeat (first | (with_reducible first | exact HB.out | apply below_alloc | apply pw_below_drewN | apply below_drew1 | refine below_set ?_ GE340.out | refine below_set ?_ GE341.out | refine below_set ?_ GE342.out) | exact HB.out))))
                    have n7_ := Aside0.mk (blk_below (g := gb340) (o := .cells #[.string a1_0, .string a1_1] 25 (0, 0)) (by (with_reducible repeat (first | refine blk_drewN ?_ _ | refine blk_drew ?_ | refine blk_alloc ?_ _)); exact BK340.out) hb)
                    have n8_ := Aside0.mk (blk_below (g := gb341) (o := .cells #[.string a2_0, .string a2_1] 48 (0, 0)) (by (with_reducible repeat (first | refine blk_drewN ?_ _ | refine blk_drew ?_ | refine blk_alloc ?_ _)); exact BK341.out) hb)
                    have n9_ := Aside0.mk (blk_below (g := gb342) (o := .cells #[.int .u8 a3_0, .int .i64 a3_1, .string a3_2, .string a3_3, .string a3_4, .int .u64 a3_5] 46 (0, 0)) (by (with_reducible repeat (first | refine blk_drewN ?_ _ | refine blk_drew ?_ | refine blk_alloc ?_ _)); exact BK342.out) hb)
                    have n10_ := Aside0.mk (below_step (by repeat (first | (with_reducible first | exact HB.out | apply below_alloc | apply pw_below_drewN | apply below_drew1 | refine below_set ?_ GE340.out | refine below_set ?_ GE341.out | refine below_set ?_ GE342.out) | exact HB.out)) hb)
                    clear HO355
                    clear HO358
                    clear HO362
                    clear HO365
                    clear HO369
                    clear HO373
                    clear BK340
                    clear BK341
                    clear BK342
                    clear HB
                    have HO355 := n0_
                    have HO358 := n1_
                    have HO362 := n2_
                    have HO365 := n3_
                    have HO369 := n4_
                    have HO373 := n5_
                    have HO376 := n6_
                    have BK340 := n7_
                    have BK341 := n8_
                    have BK342 := n9_
                    have HB := n10_
                    clear n0_ n1_ n2_ n3_ n4_ n5_ n6_ n7_ n8_ n9_ n10_
                    (try clear hb)
                    (try clear hb2)
                    (try clear hk)
                    (try clear hi)
                    (try clear ho0)
                    obtain ⟨Ao55, co55, eo55⟩ := Kd.R_slice HO373.out
                    (first | subst eo55 | (injection eo55 with f1_ f2_ f3_; have f4_ := f1_.symm; have f5_ := f3_.symm; clear f1_ f2_ f3_; subst f4_; subst f5_))
                    obtain ⟨Ao56, co56, eo56⟩ := Kd.R_slice HO376.out
                    (first | subst eo56 | (injection eo56 with f1_ f2_ f3_; have f4_ := f1_.symm; have f5_ := f3_.symm; clear f1_ f2_ f3_; subst f4_; subst f5_))
                    refine hK.out _ _ ⟨(blk_cell BK340.out 0).trans rfl, (blk_cell BK340.out 1).trans rfl, (blk_cell BK341.out 0).trans rfl, (blk_cell BK341.out 1).trans rfl, (blk_cell BK342.out 0).trans rfl, (blk_cell BK342.out 1).trans rfl, (blk_cell BK342.out 2).trans rfl, (blk_cell BK342.out 3).trans rfl, (blk_cell BK342.out 4).trans rfl, (blk_cell BK342.out 5).trans rfl⟩ (fun hHeld => ?_)
                    clear hK K
                    refine norm_ (a' := ?_) ?_ ?_
                    rotate_left
                    · show Act.put _ (some 75) _ = _
                      simp only [Act.put, List.setIfInBounds_toArray, List.set_cons_zero, List.set_cons_succ, i64_w, i32_w]
                      rfl
                    refine one_ (i := 35) (N := some 76) #[true, true, true, true, true, true, true, true, true, true, true, true, true, true, true, true, true, true, true, true, true, true, true, true, true, true, true, true, true, true, true, true, true, true, true, true, false, false, false, false, false, false, false, false, false, false, false, false, false] rfl rfl (one_of HT_.out (by kernel_rfl)) (by decide) (fun K hK => ?_)
                    refine goes_ Try.func21 (by kernel_rfl) rfl #[.slice Ao55 t371.length co55, .slice Ao56 t374.length co56] (by rfl) rfl rfl (by (try simp only [List.map_toArray, List.map_cons, List.map_nil]); first | done | rfl | (simp only [List.length_drop, List.length_take]; rfl)) ?_
                    with_reducible refine (catchmentref05_Same.calls k _ _ t371 _ _ t374 true _ ?side1 ?side2 ?side3 ?side4 A26.out).mono ?_
                    (case side1 => repeat (first | exact (Kd.R_reads' HO373.out).2.2 | (with_reducible refine Kd.C_alloc ?_ _) | (with_reducible refine Kd.C_drewN ?_ _) | (with_reducible refine Kd.C_drew ?_)))
                    (case side2 => exact (Kd.R_reads' HO373.out).2.1)
                    (case side3 => repeat (first | exact (Kd.R_reads' HO376.out).2.2 | (with_reducible refine Kd.C_alloc ?_ _) | (with_reducible refine Kd.C_drewN ?_ _) | (with_reducible refine Kd.C_drew ?_)))
                    (case side4 => exact (Kd.R_reads' HO376.out).2.1)
                    rintro e w' ⟨rfl, ⟨nd, rfl⟩⟩
                    refine ⟨_, rfl, ?_⟩
                    refine hK.out _ _ ⟨(blk_cell BK340.out 0).trans rfl, (blk_cell BK340.out 1).trans rfl, (blk_cell BK341.out 0).trans rfl, (blk_cell BK341.out 1).trans rfl, (blk_cell BK342.out 0).trans rfl, (blk_cell BK342.out 1).trans rfl, (blk_cell BK342.out 2).trans rfl, (blk_cell BK342.out 3).trans rfl, (blk_cell BK342.out 4).trans rfl, (blk_cell BK342.out 5).trans rfl⟩ (fun hHeld => ?_)
                    clear hK K
                    refine norm_ (a' := ?_) ?_ ?_
                    rotate_left
                    · show Act.put _ (some 76) _ = _
                      simp only [Act.put, List.setIfInBounds_toArray, List.set_cons_zero, List.set_cons_succ, i64_w, i32_w]
                      rfl
                    refine pure_ (i := 36) (N := some 77) (v := ?_) (a' := ?_) #[true, true, true, true, true, true, true, true, true, true, true, true, true, true, true, true, true, true, true, true, true, true, true, true, true, true, true, true, true, true, true, true, true, true, true, true, true, false, false, false, false, false, false, false, false, false, false, false, false] rfl rfl (any_of HT_.out (by kernel_rfl)) (fun _ _ _ h => h) (Or.inl ⟨by rfl, ?_⟩) ?_ ?_
                    rotate_left
                    · intro w'
                      go_simp
                      with_reducible rfl
                    rotate_left
                    · simp only [Act.put, List.setIfInBounds_toArray, List.set_cons_zero, List.set_cons_succ, i64_w, i32_w]
                      rfl
                    refine pure_ (i := 37) (N := some 78) (v := ?_) (a' := ?_) #[true, true, true, true, true, true, true, true, true, true, true, true, true, true, true, true, true, true, true, true, true, true, true, true, true, true, true, true, true, true, true, true, true, true, true, true, true, true, false, false, false, false, false, false, false, false, false, false, false] rfl rfl (any_of HT_.out (by kernel_rfl)) (fun _ _ _ h => h) (Or.inl ⟨by rfl, ?_⟩) ?_ ?_
                    rotate_left
                    · intro w'
                      go_simp
                      with_reducible rfl
                    rotate_left
                    · simp only [Act.put, List.setIfInBounds_toArray, List.set_cons_zero, List.set_cons_succ, i64_w, i32_w]
                      rfl
                    refine pure_ (i := 38) (N := some 79) (v := ?_) (a' := ?_) #[true, true, true, true, true, true, true, true, true, true, true, true, true, true, true, true, true, true, true, true, true, true, true, true, true, true, true, true, true, true, true, true, true, true, true, true, true, true, true, false, false, false, false, false, false, false, false, false, false] rfl rfl (any_of HT_.out (by kernel_rfl)) (fun _ _ _ h => h) (Or.inl ⟨by rfl, ?_⟩) ?_ ?_
                    rotate_left
                    · intro w'
                      go_simp
                      with_reducible rfl
                    rotate_left
                    · simp only [Act.put, List.setIfInBounds_toArray, List.set_cons_zero, List.set_cons_succ, i64_w, i32_w]
                      rfl
                    refine pure_ (i := 43) (N := some 84) (v := ?_) (a' := ?_) #[true, true, true, true, true, true, true, true, true, true, true, true, true, true, true, true, true, true, true, true, true, true, true, true, true, true, true, true, true, true, true, true, true, true, true, true, true, true, true, false, false, false, false, true, false, false, false, false, false] rfl rfl (any_of HT_.out (by kernel_rfl)) (fun _ _ _ h => h) (Or.inl ⟨by rfl, ?_⟩) ?_ ?_
                    rotate_left
                    · intro w'
                      go_simp
                      with_reducible rfl
                    rotate_left
                    · simp only [Act.put, List.setIfInBounds_toArray, List.set_cons_zero, List.set_cons_succ, i64_w, i32_w]
                      rfl
                    refine pure_ (i := 44) (N := some 85) (v := ?_) (a' := ?_) #[true, true, true, true, true, true, true, true, true, true, true, true, true, true, true, true, true, true, true, true, true, true, true, true, true, true, true, true, true, true, true, true, true, true, true, true, true, true, true, false, false, false, false, true, true, false, false, false, false] rfl rfl (any_of HT_.out (by kernel_rfl)) (fun _ _ _ h => h) (Or.inl ⟨by rfl, ?_⟩) ?_ ?_
                    rotate_left
                    · intro w'
                      go_simp
                      with_reducible rfl
                    rotate_left
                    · simp only [Act.put, List.setIfInBounds_toArray, List.set_cons_zero, List.set_cons_succ, i64_w, i32_w]
                      rfl
                    refine take_ (i := 39) (N := some 80) (v := ?_) (a' := ?_) #[true, true, true, true, true, true, true, true, true, true, true, true, true, true, true, true, true, true, true, true, true, true, true, true, true, true, true, true, true, true, true, true, true, true, true, true, true, true, true, true, false, false, false, true, true, false, false, false, false] rfl rfl (take_ofW HT_.out HW_.out (by kernel_rfl)) (fun _ _ _ h => h) (Or.inl ⟨by rfl, ?_⟩) hHeld ?_ ?_
                    rotate_left
                    · rintro w' ⟨s0, s1, s2, s3, s4, s5, s6, s7, s8, s9⟩
                      go_simp
                      with_reducible rfl
                    rotate_left
                    · simp only [Act.put, List.setIfInBounds_toArray, List.set_cons_zero, List.set_cons_succ, i64_w, i32_w]
                      rfl
                    refine take_ (i := 41) (N := some 82) (v := ?_) (a' := ?_) #[true, true, true, true, true, true, true, true, true, true, true, true, true, true, true, true, true, true, true, true, true, true, true, true, true, true, true, true, true, true, true, true, true, true, true, true, true, true, true, true, false, true, false, true, true, false, false, false, false] rfl rfl (take_ofW HT_.out HW_.out (by kernel_rfl)) (fun _ _ _ h => h) (Or.inl ⟨by rfl, ?_⟩) hHeld ?_ ?_
                    rotate_left
                    · rintro w' ⟨s0, s1, s2, s3, s4, s5, s6, s7, s8, s9⟩
                      go_simp
                      with_reducible rfl
                    rotate_left
                    · simp only [Act.put, List.setIfInBounds_toArray, List.set_cons_zero, List.set_cons_succ, i64_w, i32_w]
                      rfl
                    refine join_ (σ := Value × Value) 4 #[true, true, true, true, true, true, true, true, true, true, true, true, true, true, true, true, true, true, true, true, true, true, true, true, true, true, true, true, true, true, true, true, true, true, true, true, true, true, true, true, true, true, true, true, true, false, false, false, false] (fun s_ => [(81, s_.1), (83, s_.2)]) (fun s_ w' => (w'.cell? ⟨gb340, 0, none⟩ = some (.string a1_0) ∧ w'.cell? ⟨gb340, 1, none⟩ = some (.string a1_1) ∧ w'.cell? ⟨gb341, 0, none⟩ = some (.string a2_0) ∧ w'.cell? ⟨gb341, 1, none⟩ = some (.string a2_1) ∧ w'.cell? ⟨gb342, 0, none⟩ = some (.int .u8 a3_0) ∧ w'.cell? ⟨gb342, 1, none⟩ = some (.int .i64 a3_1) ∧ w'.cell? ⟨gb342, 2, none⟩ = some (.string a3_2) ∧ w'.cell? ⟨gb342, 3, none⟩ = some (.string a3_3) ∧ w'.cell? ⟨gb342, 4, none⟩ = some (.string a3_4) ∧ w'.cell? ⟨gb342, 5, none⟩ = some (.int .u64 a3_5)) ∧ (Kd.R k46 46 w' w.heap.size (fun k_ => some k_ ≠ (s_.2 : Value).ownBlock ∧ k_ ≠ gb342) (.slice Ao42 y353.length co42) y353) ∧ (Kd.R k25 25 w' w.heap.size (fun k_ => some k_ ≠ (.slice Ao49 t360.length co49 : Value).ownBlock ∧ some k_ ≠ (.slice Ao50 t363.length co50 : Value).ownBlock ∧ some k_ ≠ (.slice Ao52 t367.length co52 : Value).ownBlock ∧ some k_ ≠ (.slice Ao55 t371.length co55 : Value).ownBlock ∧ some k_ ≠ (.slice Ao56 t374.length co56 : Value).ownBlock ∧ some k_ ≠ (s_.1 : Value).ownBlock ∧ k_ ≠ gb340) (.slice Ao44 t356.length co44) t356) ∧ (Kd.R k25 25 w' w.heap.size (fun k_ => some k_ ≠ (.slice Ao44 t356.length co44 : Value).ownBlock ∧ some k_ ≠ (.slice Ao50 t363.length co50 : Value).ownBlock ∧ some k_ ≠ (.slice Ao52 t367.length co52 : Value).ownBlock ∧ some k_ ≠ (.slice Ao55 t371.length co55 : Value).ownBlock ∧ some k_ ≠ (.slice Ao56 t374.length co56 : Value).ownBlock ∧ some k_ ≠ (s_.1 : Value).ownBlock ∧ k_ ≠ gb340) (.slice Ao49 t360.length co49) t360) ∧ (Kd.R k25 25 w' w.heap.size (fun k_ => some k_ ≠ (.slice Ao44 t356.length co44 : Value).ownBlock ∧ some k_ ≠ (.slice Ao49 t360.length co49 : Value).ownBlock ∧ some k_ ≠ (.slice Ao52 t367.length co52 : Value).ownBlock ∧ some k_ ≠ (.slice Ao55 t371.length co55 : Value).ownBlock ∧ some k_ ≠ (.slice Ao56 t374.length co56 : Value).ownBlock ∧ some k_ ≠ (s_.1 : Value).ownBlock ∧ k_ ≠ gb340) (.slice Ao50 t363.length co50) t363) ∧ (Kd.R k25 25 w' w.heap.size (fun k_ => some k_ ≠ (.slice Ao44 t356.length co44 : Value).ownBlock ∧ some k_ ≠ (.slice Ao49 t360.length co49 : Value).ownBlock ∧ some k_ ≠ (.slice Ao50 t363.length co50 : Value).ownBlock ∧ some k_ ≠ (.slice Ao55 t371.length co55 : Value).ownBlock ∧ some k_ ≠ (.slice Ao56 t374.length co56 : Value).ownBlock ∧ some k_ ≠ (s_.1 : Value).ownBlock ∧ k_ ≠ gb340) (.slice Ao52 t367.length co52) t367) ∧ (Kd.R k25 25 w' w.heap.size (fun k_ => some k_ ≠ (.slice Ao44 t356.length co44 : Value).ownBlock ∧ some k_ ≠ (.slice Ao49 t360.length co49 : Value).ownBlock ∧ some k_ ≠ (.slice Ao50 t363.length co50 : Value).ownBlock ∧ some k_ ≠ (.slice Ao52 t367.length co52 : Value).ownBlock ∧ some k_ ≠ (.slice Ao56 t374.length co56 : Value).ownBlock ∧ some k_ ≠ (s_.1 : Value).ownBlock ∧ k_ ≠ gb340) (.slice Ao55 t371.length co55) t371) ∧ (Kd.R k25 25 w' w.heap.size (fun k_ => some k_ ≠ (.slice Ao44 t356.length co44 : Value).ownBlock ∧ some k_ ≠ (.slice Ao49 t360.length co49 : Value).ownBlock ∧ some k_ ≠ (.slice Ao50 t363.length co50 : Value).ownBlock ∧ some k_ ≠ (.slice Ao52 t367.length co52 : Value).ownBlock ∧ some k_ ≠ (.slice Ao55 t371.length co55 : Value).ownBlock ∧ some k_ ≠ (s_.1 : Value).ownBlock ∧ k_ ≠ gb340) (.slice Ao56 t374.length co56) t374) ∧ (Kd.R k25 25 w' w.heap.size (fun k_ => some k_ ≠ (.slice Ao44 t356.length co44 : Value).ownBlock ∧ some k_ ≠ (.slice Ao49 t360.length co49 : Value).ownBlock ∧ some k_ ≠ (.slice Ao50 t363.length co50 : Value).ownBlock ∧ some k_ ≠ (.slice Ao52 t367.length co52 : Value).ownBlock ∧ some k_ ≠ (.slice Ao55 t371.length co55 : Value).ownBlock ∧ some k_ ≠ (.slice Ao56 t374.length co56 : Value).ownBlock ∧ k_ ≠ gb340) s_.1 t378) ∧ (Kd.R k46 46 w' w.heap.size (fun k_ => some k_ ≠ (.slice Ao42 y353.length co42 : Value).ownBlock ∧ k_ ≠ gb342) s_.2 y381) ∧ (w'.heap[gb340]? = some (.cells #[.string a1_0, .string a1_1] 25 (0, 0))) ∧ (w'.heap[gb341]? = some (.cells #[.string a2_0, .string a2_1] 48 (0, 0))) ∧ (w'.heap[gb342]? = some (.cells #[.int .u8 a3_0, .int .i64 a3_1, .string a3_2, .string a3_3, .string a3_4, .int .u64 a3_5] 46 (0, 0))) ∧ (Below w.heap.size w w')) ?_ ?_
                    rotate_left
                    · intro hCont
                      refine two_ (i := 40) (j := 42) (Ni := some 81) (Nj := some 83) #[true, true, true, true, true, true, true, true, true, true, true, true, true, true, true, true, true, true, true, true, true, true, true, true, true, true, true, true, true, true, true, true, true, true, true, true, true, true, true, true, true, true, false, true, true, false, false, false, false] #[true, true, true, true, true, true, true, true, true, true, true, true, true, true, true, true, true, true, true, true, true, true, true, true, true, true, true, true, true, true, true, true, true, true, true, true, true, true, true, true, false, true, true, true, true, false, false, false, false] rfl rfl rfl rfl (two_of HT_.out (by kernel_rfl)) (by decide) (by decide) (fun K hK => ?_) (fun K hK => ?_)
                      · skip
                        refine goes_ Try.func70 (by kernel_rfl) rfl #[.slice A0 y343.length c0, .agg #[.int .u8 a3_0, .int .i64 a3_1, .string a3_2, .string a3_3, .string a3_4, .int .u64 a3_5]] (by rfl) rfl rfl (by (try simp only [List.map_toArray, List.map_cons, List.map_nil]); first | done | rfl | (simp only [List.length_drop, List.length_take]; rfl)) ?_
                        with_reducible refine (block_Apply.calls k _ _ y343 a3_0 a3_1 a3_2 a3_3 a3_4 a3_5 t378 _ ?side1 ?side2 A28.out).mono ?_
                        (case side1 => repeat (first | exact (Kd.C_below HR346.out (by repeat (first | (with_reducible first | exact HB.out | apply below_alloc | apply pw_below_drewN | apply below_drew1 | refine below_set ?_ GE340.out | refine below_set ?_ GE341.out | refine below_set ?_ GE342.out) | exact HB.out))) | (with_reducible refine Kd.C_alloc ?_ _) | (with_reducible refine Kd.C_drewN ?_ _) | (with_reducible refine Kd.C_drew ?_)))
                        (case side2 => exact HC346.out)
                        rintro e w57 ⟨v379, rfl, ho0, hb⟩
                        refine ⟨_, rfl, ?_⟩
                        have n0_ := Aside0.mk (Kd.R_below (by (with_reducible repeat (first | apply Kd.R_alloc | apply Kd.R_drewN | apply Kd.R_drew)); exact HO355.out) hb)
                        have n1_ := Aside0.mk (Kd.R_elder' (by (with_reducible repeat (first | apply Kd.R_alloc | apply Kd.R_drewN | apply Kd.R_drew)); exact HO358.out) (Kd.R_base ho0) hb)
                        have n2_ := Aside0.mk (Kd.R_elder' (by (with_reducible repeat (first | apply Kd.R_alloc | apply Kd.R_drewN | apply Kd.R_drew)); exact HO362.out) (Kd.R_base ho0) hb)
                        have n3_ := Aside0.mk (Kd.R_elder' (by (with_reducible repeat (first | apply Kd.R_alloc | apply Kd.R_drewN | apply Kd.R_drew)); exact HO365.out) (Kd.R_base ho0) hb)
                        have n4_ := Aside0.mk (Kd.R_elder' (by (with_reducible repeat (first | apply Kd.R_alloc | apply Kd.R_drewN | apply Kd.R_drew)); exact HO369.out) (Kd.R_base ho0) hb)
                        have n5_ := Aside0.mk (Kd.R_elder' (by (with_reducible repeat (first | apply Kd.R_alloc | apply Kd.R_drewN | apply Kd.R_drew)); exact HO373.out) (Kd.R_base ho0) hb)
                        have n6_ := Aside0.mk (Kd.R_elder' (by (with_reducible repeat (first | apply Kd.R_alloc | apply Kd.R_drewN | apply Kd.R_drew)); exact HO376.out) (Kd.R_base ho0) hb)
                        have n7_ := Aside0.mk (Kd.R_lower (Kd.R_newB (Kd.R_new' (Kd.R_new' (Kd.R_new' (Kd.R_new' (Kd.R_new' (Kd.R_new' ho0 (Kd.R_lt (by (with_reducible repeat (first | apply Kd.R_alloc | apply Kd.R_drewN | apply Kd.R_drew)); exact HO358.out))) (Kd.R_lt (by (with_reducible repeat (first | apply Kd.R_alloc | apply Kd.R_drewN | apply Kd.R_drew)); exact HO362.out))) (Kd.R_lt (by (with_reducible repeat (first | apply Kd.R_alloc | apply Kd.R_drewN | apply Kd.R_drew)); exact HO365.out))) (Kd.R_lt (by (with_reducible repeat (first | apply Kd.R_alloc | apply Kd.R_drewN | apply Kd.R_drew)); exact HO369.out))) (Kd.R_lt (by (with_reducible repeat (first | apply Kd.R_alloc | apply Kd.R_drewN | apply Kd.R_drew)); exact HO373.out))) (Kd.R_lt (by (with_reducible repeat (first | apply Kd.R_alloc | apply Kd.R_drewN | apply Kd.R_drew)); exact HO376.out))) (g := gb340) (o := .cells #[.string a1_0, .string a1_1] 25 (0, 0)) (by (with_reducible repeat (first | refine blk_drewN ?_ _ | refine blk_drew ?_ | refine blk_alloc ?_ _)); exact BK340.out)) (below_size (by repeat (first | (with_reducible first | exact HB.out | apply below_alloc | apply pw_below_drewN | apply below_drew1 | refine below_set ?_ GE340.out | refine below_set ?_ GE341.out | refine below_set ?_ GE342.out) | exact HB.out))))
                        have n8_ := Aside0.mk (blk_below (g := gb340) (o := .cells #[.string a1_0, .string a1_1] 25 (0, 0)) (by (with_reducible repeat (first | refine blk_drewN ?_ _ | refine blk_drew ?_ | refine blk_alloc ?_ _)); exact BK340.out) hb)
                        have n9_ := Aside0.mk (blk_below (g := gb341) (o := .cells #[.string a2_0, .string a2_1] 48 (0, 0)) (by (with_reducible repeat (first | refine blk_drewN ?_ _ | refine blk_drew ?_ | refine blk_alloc ?_ _)); exact BK341.out) hb)
                        have n10_ := Aside0.mk (blk_below (g := gb342) (o := .cells #[.int .u8 a3_0, .int .i64 a3_1, .string a3_2, .string a3_3, .string a3_4, .int .u64 a3_5] 46 (0, 0)) (by (with_reducible repeat (first | refine blk_drewN ?_ _ | refine blk_drew ?_ | refine blk_alloc ?_ _)); exact BK342.out) hb)
                        have n11_ := Aside0.mk (below_step (by repeat (first | (with_reducible first | exact HB.out | apply below_alloc | apply pw_below_drewN | apply below_drew1 | refine below_set ?_ GE340.out | refine below_set ?_ GE341.out | refine below_set ?_ GE342.out) | exact HB.out)) hb)
                        clear HO355
                        clear HO358
                        clear HO362
                        clear HO365
                        clear HO369
                        clear HO373
                        clear HO376
                        clear BK340
                        clear BK341
                        clear BK342
                        clear HB
                        have HO355 := n0_
                        have HO358 := n1_
                        have HO362 := n2_
                        have HO365 := n3_
                        have HO369 := n4_
                        have HO373 := n5_
                        have HO376 := n6_
                        have HO380 := n7_
                        have BK340 := n8_
                        have BK341 := n9_
                        have BK342 := n10_
                        have HB := n11_
                        clear n0_ n1_ n2_ n3_ n4_ n5_ n6_ n7_ n8_ n9_ n10_ n11_
                        (try clear hb)
                        (try clear hb2)
                        (try clear hk)
                        (try clear hi)
                        (try clear ho0)
                        refine hK.out _ _ ⟨(blk_cell BK340.out 0).trans rfl, (blk_cell BK340.out 1).trans rfl, (blk_cell BK341.out 0).trans rfl, (blk_cell BK341.out 1).trans rfl, (blk_cell BK342.out 0).trans rfl, (blk_cell BK342.out 1).trans rfl, (blk_cell BK342.out 2).trans rfl, (blk_cell BK342.out 3).trans rfl, (blk_cell BK342.out 4).trans rfl, (blk_cell BK342.out 5).trans rfl⟩ (fun hHeld => ?_)
                        clear hK K
                        refine norm_ (a' := ?_) ?_ ?_
                        rotate_left
                        · show Act.put _ (some 81) _ = _
                          simp only [Act.put, List.setIfInBounds_toArray, List.set_cons_zero, List.set_cons_succ, i64_w, i32_w]
                          rfl
                        refine one_ (i := 42) (N := some 83) #[true, true, true, true, true, true, true, true, true, true, true, true, true, true, true, true, true, true, true, true, true, true, true, true, true, true, true, true, true, true, true, true, true, true, true, true, true, true, true, true, true, true, true, true, true, false, false, false, false] rfl rfl (one_of HT_.out (by kernel_rfl)) (by decide) (fun K hK => ?_)
                        refine Kd.R_lit_step k46 _ 46 ?hg (N := 83) ?hd (xs := ([(⟨a3_0, a3_1, a3_2, a3_3, a3_4, a3_5⟩ : S46)] : List (S46))) (inner := [.int .u8 a3_0, .int .i64 a3_1, .string a3_2, .string a3_3, .string a3_4, .int .u64 a3_5]) (ok := fun _ => True) (okp := fun _ => True) ?hr ?hp (fun _ hk => hk) trivial (Below.refl _ _) (Nat.le_refl _) (by simp) ?_; (case hd => rfl); (case hg => rfl); (case hr => first | (go_simp; done) | (go_simp; rfl)); (case hp => exact (Reps.c6 (show Kd.M k46 _ _ _ (⟨a3_0, a3_1, a3_2, a3_3, a3_4, a3_5⟩ : S46) [.int .u8 a3_0, .int .i64 a3_1, .string a3_2, .string a3_3, .string a3_4, .int .u64 a3_5] from (k46_mkM _ _ _ (⟨a3_0, a3_1, a3_2, a3_3, a3_4, a3_5⟩ : S46) )) (Reps.none _ _)))
                        intro v382 w58 ho59 hb hg_ hnew_
                        clear hg_ hnew_
                        (first | rw [← Ny381.out] at ho59 | (simp only [Int.reduceToNat] at ho59; rw [← Ny381.out] at ho59))
                        have n0_ := Aside0.mk (Kd.R_elder' (by (with_reducible repeat (first | apply Kd.R_alloc | apply Kd.R_drewN | apply Kd.R_drew)); exact HO355.out) (Kd.R_base ho59) hb)
                        have n1_ := Aside0.mk (Kd.R_below (by (with_reducible repeat (first | apply Kd.R_alloc | apply Kd.R_drewN | apply Kd.R_drew)); exact HO358.out) hb)
                        have n2_ := Aside0.mk (Kd.R_below (by (with_reducible repeat (first | apply Kd.R_alloc | apply Kd.R_drewN | apply Kd.R_drew)); exact HO362.out) hb)
                        have n3_ := Aside0.mk (Kd.R_below (by (with_reducible repeat (first | apply Kd.R_alloc | apply Kd.R_drewN | apply Kd.R_drew)); exact HO365.out) hb)
                        have n4_ := Aside0.mk (Kd.R_below (by (with_reducible repeat (first | apply Kd.R_alloc | apply Kd.R_drewN | apply Kd.R_drew)); exact HO369.out) hb)
                        have n5_ := Aside0.mk (Kd.R_below (by (with_reducible repeat (first | apply Kd.R_alloc | apply Kd.R_drewN | apply Kd.R_drew)); exact HO373.out) hb)
                        have n6_ := Aside0.mk (Kd.R_below (by (with_reducible repeat (first | apply Kd.R_alloc | apply Kd.R_drewN | apply Kd.R_drew)); exact HO376.out) hb)
                        have n7_ := Aside0.mk (Kd.R_below (by (with_reducible repeat (first | apply Kd.R_alloc | apply Kd.R_drewN | apply Kd.R_drew)); exact HO380.out) hb)
                        have n8_ := Aside0.mk (Kd.R_lower (Kd.R_newB (Kd.R_new' ho59 (Kd.R_lt (by (with_reducible repeat (first | apply Kd.R_alloc | apply Kd.R_drewN | apply Kd.R_drew)); exact HO355.out))) (g := gb342) (o := .cells #[.int .u8 a3_0, .int .i64 a3_1, .string a3_2, .string a3_3, .string a3_4, .int .u64 a3_5] 46 (0, 0)) (by (with_reducible repeat (first | refine blk_drewN ?_ _ | refine blk_drew ?_ | refine blk_alloc ?_ _)); exact BK342.out)) (below_size (by repeat (first | (with_reducible first | exact HB.out | apply below_alloc | apply pw_below_drewN | apply below_drew1 | refine below_set ?_ GE340.out | refine below_set ?_ GE341.out | refine below_set ?_ GE342.out) | exact HB.out))))
                        have n9_ := Aside0.mk (blk_below (g := gb340) (o := .cells #[.string a1_0, .string a1_1] 25 (0, 0)) (by (with_reducible repeat (first | refine blk_drewN ?_ _ | refine blk_drew ?_ | refine blk_alloc ?_ _)); exact BK340.out) hb)
                        have n10_ := Aside0.mk (blk_below (g := gb341) (o := .cells #[.string a2_0, .string a2_1] 48 (0, 0)) (by (with_reducible repeat (first | refine blk_drewN ?_ _ | refine blk_drew ?_ | refine blk_alloc ?_ _)); exact BK341.out) hb)
                        have n11_ := Aside0.mk (blk_below (g := gb342) (o := .cells #[.int .u8 a3_0, .int .i64 a3_1, .string a3_2, .string a3_3, .string a3_4, .int .u64 a3_5] 46 (0, 0)) (by (with_reducible repeat (first | refine blk_drewN ?_ _ | refine blk_drew ?_ | refine blk_alloc ?_ _)); exact BK342.out) hb)
                        have n12_ := Aside0.mk (below_step (by repeat (first | (with_reducible first | exact HB.out | apply below_alloc | apply pw_below_drewN | apply below_drew1 | refine below_set ?_ GE340.out | refine below_set ?_ GE341.out | refine below_set ?_ GE342.out) | exact HB.out)) hb)
                        clear HO355
                        clear HO358
                        clear HO362
                        clear HO365
                        clear HO369
                        clear HO373
                        clear HO376
                        clear HO380
                        clear BK340
                        clear BK341
                        clear BK342
                        clear HB
                        have HO355 := n0_
                        have HO358 := n1_
                        have HO362 := n2_
                        have HO365 := n3_
                        have HO369 := n4_
                        have HO373 := n5_
                        have HO376 := n6_
                        have HO380 := n7_
                        have HO383 := n8_
                        have BK340 := n9_
                        have BK341 := n10_
                        have BK342 := n11_
                        have HB := n12_
                        clear n0_ n1_ n2_ n3_ n4_ n5_ n6_ n7_ n8_ n9_ n10_ n11_ n12_
                        clear hb ho59
                        refine hK.out _ _ ⟨(blk_cell BK340.out 0).trans rfl, (blk_cell BK340.out 1).trans rfl, (blk_cell BK341.out 0).trans rfl, (blk_cell BK341.out 1).trans rfl, (blk_cell BK342.out 0).trans rfl, (blk_cell BK342.out 1).trans rfl, (blk_cell BK342.out 2).trans rfl, (blk_cell BK342.out 3).trans rfl, (blk_cell BK342.out 4).trans rfl, (blk_cell BK342.out 5).trans rfl⟩ (fun hHeld => ?_)
                        clear hK K
                        refine norm_ (a' := ?_) ?_ ?_
                        rotate_left
                        · show Act.put _ (some 83) _ = _
                          simp only [Act.put, List.setIfInBounds_toArray, List.set_cons_zero, List.set_cons_succ, i64_w, i32_w]
                          rfl
                        exact norm_ (by simp only [putAll, Act.put, List.setIfInBounds_toArray, List.set_cons_zero, List.set_cons_succ]) (hCont (v379, v382) _ ⟨hHeld, (by (with_reducible repeat (first | apply Kd.R_alloc | apply Kd.R_drewN | apply Kd.R_drew)); exact Kd.R_mono HO355.out (fun _ hk => ⟨hk.2, hk.1.2⟩)), (by (with_reducible repeat (first | apply Kd.R_alloc | apply Kd.R_drewN | apply Kd.R_drew)); exact Kd.R_mono HO358.out (fun _ hk => ⟨hk.1.1.1.1.1.2, ⟨hk.1.1.1.1.2, ⟨hk.1.1.1.2, ⟨hk.1.1.2, ⟨hk.1.2, ⟨hk.2, hk.1.1.1.1.1.1.2⟩⟩⟩⟩⟩⟩)), (by (with_reducible repeat (first | apply Kd.R_alloc | apply Kd.R_drewN | apply Kd.R_drew)); exact Kd.R_mono HO362.out (fun _ hk => ⟨hk.1.1.1.1.1.1.2, ⟨hk.1.1.1.1.2, ⟨hk.1.1.1.2, ⟨hk.1.1.2, ⟨hk.1.2, ⟨hk.2, hk.1.1.1.1.1.2⟩⟩⟩⟩⟩⟩)), (by (with_reducible repeat (first | apply Kd.R_alloc | apply Kd.R_drewN | apply Kd.R_drew)); exact Kd.R_mono HO365.out (fun _ hk => ⟨hk.1.1.1.1.1.1.2, ⟨hk.1.1.1.1.1.2, ⟨hk.1.1.1.2, ⟨hk.1.1.2, ⟨hk.1.2, ⟨hk.2, hk.1.1.1.1.2⟩⟩⟩⟩⟩⟩)), (by (with_reducible repeat (first | apply Kd.R_alloc | apply Kd.R_drewN | apply Kd.R_drew)); exact Kd.R_mono HO369.out (fun _ hk => ⟨hk.1.1.1.1.1.1.2, ⟨hk.1.1.1.1.1.2, ⟨hk.1.1.1.1.2, ⟨hk.1.1.2, ⟨hk.1.2, ⟨hk.2, hk.1.1.1.2⟩⟩⟩⟩⟩⟩)), (by (with_reducible repeat (first | apply Kd.R_alloc | apply Kd.R_drewN | apply Kd.R_drew)); exact Kd.R_mono HO373.out (fun _ hk => ⟨hk.1.1.1.1.1.1.2, ⟨hk.1.1.1.1.1.2, ⟨hk.1.1.1.1.2, ⟨hk.1.1.1.2, ⟨hk.1.2, ⟨hk.2, hk.1.1.2⟩⟩⟩⟩⟩⟩)), (by (with_reducible repeat (first | apply Kd.R_alloc | apply Kd.R_drewN | apply Kd.R_drew)); exact Kd.R_mono HO376.out (fun _ hk => ⟨hk.1.1.1.1.1.1.2, ⟨hk.1.1.1.1.1.2, ⟨hk.1.1.1.1.2, ⟨hk.1.1.1.2, ⟨hk.1.1.2, ⟨hk.2, hk.1.2⟩⟩⟩⟩⟩⟩)), (by (with_reducible repeat (first | apply Kd.R_alloc | apply Kd.R_drewN | apply Kd.R_drew)); exact Kd.R_mono HO380.out (fun _ hk => ⟨hk.1.1.1.1.1.1.2, ⟨hk.1.1.1.1.1.2, ⟨hk.1.1.1.1.2, ⟨hk.1.1.1.2, ⟨hk.1.1.2, ⟨hk.1.2, hk.2⟩⟩⟩⟩⟩⟩)), (by (with_reducible repeat (first | apply Kd.R_alloc | apply Kd.R_drewN | apply Kd.R_drew)); exact Kd.R_mono HO383.out (fun _ hk => ⟨hk.1.2, hk.2⟩)), (by (with_reducible repeat (first | refine blk_drewN ?_ _ | refine blk_drew ?_ | refine blk_alloc ?_ _)); exact BK340.out), (by (with_reducible repeat (first | refine blk_drewN ?_ _ | refine blk_drew ?_ | refine blk_alloc ?_ _)); exact BK341.out), (by (with_reducible repeat (first | refine blk_drewN ?_ _ | refine blk_drew ?_ | refine blk_alloc ?_ _)); exact BK342.out), (by repeat (first | (with_reducible first | exact HB.out | apply below_alloc | apply pw_below_drewN | apply below_drew1 | refine below_set ?_ GE340.out | refine below_set ?_ GE341.out | refine below_set ?_ GE342.out) | exact HB.out))⟩)
                      · skip
                        refine Kd.R_lit_step k46 _ 46 ?hg (N := 83) ?hd (xs := ([(⟨a3_0, a3_1, a3_2, a3_3, a3_4, a3_5⟩ : S46)] : List (S46))) (inner := [.int .u8 a3_0, .int .i64 a3_1, .string a3_2, .string a3_3, .string a3_4, .int .u64 a3_5]) (ok := fun _ => True) (okp := fun _ => True) ?hr ?hp (fun _ hk => hk) trivial (Below.refl _ _) (Nat.le_refl _) (by simp) ?_; (case hd => rfl); (case hg => rfl); (case hr => first | (go_simp; done) | (go_simp; rfl)); (case hp => exact (Reps.c6 (show Kd.M k46 _ _ _ (⟨a3_0, a3_1, a3_2, a3_3, a3_4, a3_5⟩ : S46) [.int .u8 a3_0, .int .i64 a3_1, .string a3_2, .string a3_3, .string a3_4, .int .u64 a3_5] from (k46_mkM _ _ _ (⟨a3_0, a3_1, a3_2, a3_3, a3_4, a3_5⟩ : S46) )) (Reps.none _ _)))
                        intro v382 w57 ho58 hb hg_ hnew_
                        clear hg_ hnew_
                        (first | rw [← Ny381.out] at ho58 | (simp only [Int.reduceToNat] at ho58; rw [← Ny381.out] at ho58))
                        have n0_ := Aside0.mk (Kd.R_elder' (by (with_reducible repeat (first | apply Kd.R_alloc | apply Kd.R_drewN | apply Kd.R_drew)); exact HO355.out) (Kd.R_base ho58) hb)
                        have n1_ := Aside0.mk (Kd.R_below (by (with_reducible repeat (first | apply Kd.R_alloc | apply Kd.R_drewN | apply Kd.R_drew)); exact HO358.out) hb)
                        have n2_ := Aside0.mk (Kd.R_below (by (with_reducible repeat (first | apply Kd.R_alloc | apply Kd.R_drewN | apply Kd.R_drew)); exact HO362.out) hb)
                        have n3_ := Aside0.mk (Kd.R_below (by (with_reducible repeat (first | apply Kd.R_alloc | apply Kd.R_drewN | apply Kd.R_drew)); exact HO365.out) hb)
                        have n4_ := Aside0.mk (Kd.R_below (by (with_reducible repeat (first | apply Kd.R_alloc | apply Kd.R_drewN | apply Kd.R_drew)); exact HO369.out) hb)
                        have n5_ := Aside0.mk (Kd.R_below (by (with_reducible repeat (first | apply Kd.R_alloc | apply Kd.R_drewN | apply Kd.R_drew)); exact HO373.out) hb)
                        have n6_ := Aside0.mk (Kd.R_below (by (with_reducible repeat (first | apply Kd.R_alloc | apply Kd.R_drewN | apply Kd.R_drew)); exact HO376.out) hb)
                        have n7_ := Aside0.mk (Kd.R_lower (Kd.R_newB (Kd.R_new' ho58 (Kd.R_lt (by (with_reducible repeat (first | apply Kd.R_alloc | apply Kd.R_drewN | apply Kd.R_drew)); exact HO355.out))) (g := gb342) (o := .cells #[.int .u8 a3_0, .int .i64 a3_1, .string a3_2, .string a3_3, .string a3_4, .int .u64 a3_5] 46 (0, 0)) (by (with_reducible repeat (first | refine blk_drewN ?_ _ | refine blk_drew ?_ | refine blk_alloc ?_ _)); exact BK342.out)) (below_size (by repeat (first | (with_reducible first | exact HB.out | apply below_alloc | apply pw_below_drewN | apply below_drew1 | refine below_set ?_ GE340.out | refine below_set ?_ GE341.out | refine below_set ?_ GE342.out) | exact HB.out))))
                        have n8_ := Aside0.mk (blk_below (g := gb340) (o := .cells #[.string a1_0, .string a1_1] 25 (0, 0)) (by (with_reducible repeat (first | refine blk_drewN ?_ _ | refine blk_drew ?_ | refine blk_alloc ?_ _)); exact BK340.out) hb)
                        have n9_ := Aside0.mk (blk_below (g := gb341) (o := .cells #[.string a2_0, .string a2_1] 48 (0, 0)) (by (with_reducible repeat (first | refine blk_drewN ?_ _ | refine blk_drew ?_ | refine blk_alloc ?_ _)); exact BK341.out) hb)
                        have n10_ := Aside0.mk (blk_below (g := gb342) (o := .cells #[.int .u8 a3_0, .int .i64 a3_1, .string a3_2, .string a3_3, .string a3_4, .int .u64 a3_5] 46 (0, 0)) (by (with_reducible repeat (first | refine blk_drewN ?_ _ | refine blk_drew ?_ | refine blk_alloc ?_ _)); exact BK342.out) hb)
                        have n11_ := Aside0.mk (below_step (by repeat (first | (with_reducible first | exact HB.out | apply below_alloc | apply pw_below_drewN | apply below_drew1 | refine below_set ?_ GE340.out | refine below_set ?_ GE341.out | refine below_set ?_ GE342.out) | exact HB.out)) hb)
                        clear HO355
                        clear HO358
                        clear HO362
                        clear HO365
                        clear HO369
                        clear HO373
                        clear HO376
                        clear BK340
                        clear BK341
                        clear BK342
                        clear HB
                        have HO355 := n0_
                        have HO358 := n1_
                        have HO362 := n2_
                        have HO365 := n3_
                        have HO369 := n4_
                        have HO373 := n5_
                        have HO376 := n6_
                        have HO383 := n7_
                        have BK340 := n8_
                        have BK341 := n9_
                        have BK342 := n10_
                        have HB := n11_
                        clear n0_ n1_ n2_ n3_ n4_ n5_ n6_ n7_ n8_ n9_ n10_ n11_
                        clear hb ho58
                        refine hK.out _ _ ⟨(blk_cell BK340.out 0).trans rfl, (blk_cell BK340.out 1).trans rfl, (blk_cell BK341.out 0).trans rfl, (blk_cell BK341.out 1).trans rfl, (blk_cell BK342.out 0).trans rfl, (blk_cell BK342.out 1).trans rfl, (blk_cell BK342.out 2).trans rfl, (blk_cell BK342.out 3).trans rfl, (blk_cell BK342.out 4).trans rfl, (blk_cell BK342.out 5).trans rfl⟩ (fun hHeld => ?_)
                        clear hK K
                        refine norm_ (a' := ?_) ?_ ?_
                        rotate_left
                        · show Act.put _ (some 83) _ = _
                          simp only [Act.put, List.setIfInBounds_toArray, List.set_cons_zero, List.set_cons_succ, i64_w, i32_w]
                          rfl
                        refine one_ (i := 40) (N := some 81) #[true, true, true, true, true, true, true, true, true, true, true, true, true, true, true, true, true, true, true, true, true, true, true, true, true, true, true, true, true, true, true, true, true, true, true, true, true, true, true, true, true, true, true, true, true, false, false, false, false] rfl rfl (one_of HT_.out (by kernel_rfl)) (by decide) (fun K hK => ?_)
                        refine goes_ Try.func70 (by kernel_rfl) rfl #[.slice A0 y343.length c0, .agg #[.int .u8 a3_0, .int .i64 a3_1, .string a3_2, .string a3_3, .string a3_4, .int .u64 a3_5]] (by rfl) rfl rfl (by (try simp only [List.map_toArray, List.map_cons, List.map_nil]); first | done | rfl | (simp only [List.length_drop, List.length_take]; rfl)) ?_
                        with_reducible refine (block_Apply.calls k _ _ y343 a3_0 a3_1 a3_2 a3_3 a3_4 a3_5 t378 _ ?side1 ?side2 A28.out).mono ?_
                        (case side1 => repeat (first | exact (Kd.C_below HR346.out HB.out) | (with_reducible refine Kd.C_alloc ?_ _) | (with_reducible refine Kd.C_drewN ?_ _) | (with_reducible refine Kd.C_drew ?_)))
                        (case side2 => exact HC346.out)
                        rintro e w59 ⟨v379, rfl, ho0, hb⟩
                        refine ⟨_, rfl, ?_⟩
                        have n0_ := Aside0.mk (Kd.R_below (by (with_reducible repeat (first | apply Kd.R_alloc | apply Kd.R_drewN | apply Kd.R_drew)); exact HO355.out) hb)
                        have n1_ := Aside0.mk (Kd.R_elder' (by (with_reducible repeat (first | apply Kd.R_alloc | apply Kd.R_drewN | apply Kd.R_drew)); exact HO358.out) (Kd.R_base ho0) hb)
                        have n2_ := Aside0.mk (Kd.R_elder' (by (with_reducible repeat (first | apply Kd.R_alloc | apply Kd.R_drewN | apply Kd.R_drew)); exact HO362.out) (Kd.R_base ho0) hb)
                        have n3_ := Aside0.mk (Kd.R_elder' (by (with_reducible repeat (first | apply Kd.R_alloc | apply Kd.R_drewN | apply Kd.R_drew)); exact HO365.out) (Kd.R_base ho0) hb)
                        have n4_ := Aside0.mk (Kd.R_elder' (by (with_reducible repeat (first | apply Kd.R_alloc | apply Kd.R_drewN | apply Kd.R_drew)); exact HO369.out) (Kd.R_base ho0) hb)
                        have n5_ := Aside0.mk (Kd.R_elder' (by (with_reducible repeat (first | apply Kd.R_alloc | apply Kd.R_drewN | apply Kd.R_drew)); exact HO373.out) (Kd.R_base ho0) hb)
                        have n6_ := Aside0.mk (Kd.R_elder' (by (with_reducible repeat (first | apply Kd.R_alloc | apply Kd.R_drewN | apply Kd.R_drew)); exact HO376.out) (Kd.R_base ho0) hb)
                        have n7_ := Aside0.mk (Kd.R_below (by (with_reducible repeat (first | apply Kd.R_alloc | apply Kd.R_drewN | apply Kd.R_drew)); exact HO383.out) hb)
                        have n8_ := Aside0.mk (Kd.R_lower (Kd.R_newB (Kd.R_new' (Kd.R_new' (Kd.R_new' (Kd.R_new' (Kd.R_new' (Kd.R_new' ho0 (Kd.R_lt (by (with_reducible repeat (first | apply Kd.R_alloc | apply Kd.R_drewN | apply Kd.R_drew)); exact HO358.out))) (Kd.R_lt (by (with_reducible repeat (first | apply Kd.R_alloc | apply Kd.R_drewN | apply Kd.R_drew)); exact HO362.out))) (Kd.R_lt (by (with_reducible repeat (first | apply Kd.R_alloc | apply Kd.R_drewN | apply Kd.R_drew)); exact HO365.out))) (Kd.R_lt (by (with_reducible repeat (first | apply Kd.R_alloc | apply Kd.R_drewN | apply Kd.R_drew)); exact HO369.out))) (Kd.R_lt (by (with_reducible repeat (first | apply Kd.R_alloc | apply Kd.R_drewN | apply Kd.R_drew)); exact HO373.out))) (Kd.R_lt (by (with_reducible repeat (first | apply Kd.R_alloc | apply Kd.R_drewN | apply Kd.R_drew)); exact HO376.out))) (g := gb340) (o := .cells #[.string a1_0, .string a1_1] 25 (0, 0)) (by (with_reducible repeat (first | refine blk_drewN ?_ _ | refine blk_drew ?_ | refine blk_alloc ?_ _)); exact BK340.out)) (below_size (by repeat (first | (with_reducible first | exact HB.out | apply below_alloc | apply pw_below_drewN | apply below_drew1 | refine below_set ?_ GE340.out | refine below_set ?_ GE341.out | refine below_set ?_ GE342.out) | exact HB.out))))
                        have n9_ := Aside0.mk (blk_below (g := gb340) (o := .cells #[.string a1_0, .string a1_1] 25 (0, 0)) (by (with_reducible repeat (first | refine blk_drewN ?_ _ | refine blk_drew ?_ | refine blk_alloc ?_ _)); exact BK340.out) hb)
                        have n10_ := Aside0.mk (blk_below (g := gb341) (o := .cells #[.string a2_0, .string a2_1] 48 (0, 0)) (by (with_reducible repeat (first | refine blk_drewN ?_ _ | refine blk_drew ?_ | refine blk_alloc ?_ _)); exact BK341.out) hb)
                        have n11_ := Aside0.mk (blk_below (g := gb342) (o := .cells #[.int .u8 a3_0, .int .i64 a3_1, .string a3_2, .string a3_3, .string a3_4, .int .u64 a3_5] 46 (0, 0)) (by (with_reducible repeat (first | refine blk_drewN ?_ _ | refine blk_drew ?_ | refine blk_alloc ?_ _)); exact BK342.out) hb)
                        have n12_ := Aside0.mk (below_step (by repeat (first | (with_reducible first | exact HB.out | apply below_alloc | apply pw_below_drewN | apply below_drew1 | refine below_set ?_ GE340.out | refine below_set ?_ GE341.out | refine below_set ?_ GE342.out) | exact HB.out)) hb)
                        clear HO355
                        clear HO358
                        clear HO362
                        clear HO365
                        clear HO369
                        clear HO373
                        clear HO376
                        clear HO383
                        clear BK340
                        clear BK341
                        clear BK342
                        clear HB
                        have HO355 := n0_
                        have HO358 := n1_
                        have HO362 := n2_
                        have HO365 := n3_
                        have HO369 := n4_
                        have HO373 := n5_
                        have HO376 := n6_
                        have HO383 := n7_
                        have HO380 := n8_
                        have BK340 := n9_
                        have BK341 := n10_
                        have BK342 := n11_
                        have HB := n12_
                        clear n0_ n1_ n2_ n3_ n4_ n5_ n6_ n7_ n8_ n9_ n10_ n11_ n12_
                        (try clear hb)
                        (try clear hb2)
                        (try clear hk)
                        (try clear hi)
                        (try clear ho0)
                        refine hK.out _ _ ⟨(blk_cell BK340.out 0).trans rfl, (blk_cell BK340.out 1).trans rfl, (blk_cell BK341.out 0).trans rfl, (blk_cell BK341.out 1).trans rfl, (blk_cell BK342.out 0).trans rfl, (blk_cell BK342.out 1).trans rfl, (blk_cell BK342.out 2).trans rfl, (blk_cell BK342.out 3).trans rfl, (blk_cell BK342.out 4).trans rfl, (blk_cell BK342.out 5).trans rfl⟩ (fun hHeld => ?_)
                        clear hK K
                        refine norm_ (a' := ?_) ?_ ?_
                        rotate_left
                        · show Act.put _ (some 81) _ = _
                          simp only [Act.put, List.setIfInBounds_toArray, List.set_cons_zero, List.set_cons_succ, i64_w, i32_w]
                          rfl
                        exact norm_ (by simp only [putAll, Act.put, List.setIfInBounds_toArray, List.set_cons_zero, List.set_cons_succ]) (hCont (v379, v382) _ ⟨hHeld, (by (with_reducible repeat (first | apply Kd.R_alloc | apply Kd.R_drewN | apply Kd.R_drew)); exact Kd.R_mono HO355.out (fun _ hk => ⟨hk.2, hk.1.2⟩)), (by (with_reducible repeat (first | apply Kd.R_alloc | apply Kd.R_drewN | apply Kd.R_drew)); exact Kd.R_mono HO358.out (fun _ hk => ⟨hk.1.1.1.1.1.2, ⟨hk.1.1.1.1.2, ⟨hk.1.1.1.2, ⟨hk.1.1.2, ⟨hk.1.2, ⟨hk.2, hk.1.1.1.1.1.1.2⟩⟩⟩⟩⟩⟩)), (by (with_reducible repeat (first | apply Kd.R_alloc | apply Kd.R_drewN | apply Kd.R_drew)); exact Kd.R_mono HO362.out (fun _ hk => ⟨hk.1.1.1.1.1.1.2, ⟨hk.1.1.1.1.2, ⟨hk.1.1.1.2, ⟨hk.1.1.2, ⟨hk.1.2, ⟨hk.2, hk.1.1.1.1.1.2⟩⟩⟩⟩⟩⟩)), (by (with_reducible repeat (first | apply Kd.R_alloc | apply Kd.R_drewN | apply Kd.R_drew)); exact Kd.R_mono HO365.out (fun _ hk => ⟨hk.1.1.1.1.1.1.2, ⟨hk.1.1.1.1.1.2, ⟨hk.1.1.1.2, ⟨hk.1.1.2, ⟨hk.1.2, ⟨hk.2, hk.1.1.1.1.2⟩⟩⟩⟩⟩⟩)), (by (with_reducible repeat (first | apply Kd.R_alloc | apply Kd.R_drewN | apply Kd.R_drew)); exact Kd.R_mono HO369.out (fun _ hk => ⟨hk.1.1.1.1.1.1.2, ⟨hk.1.1.1.1.1.2, ⟨hk.1.1.1.1.2, ⟨hk.1.1.2, ⟨hk.1.2, ⟨hk.2, hk.1.1.1.2⟩⟩⟩⟩⟩⟩)), (by (with_reducible repeat (first | apply Kd.R_alloc | apply Kd.R_drewN | apply Kd.R_drew)); exact Kd.R_mono HO373.out (fun _ hk => ⟨hk.1.1.1.1.1.1.2, ⟨hk.1.1.1.1.1.2, ⟨hk.1.1.1.1.2, ⟨hk.1.1.1.2, ⟨hk.1.2, ⟨hk.2, hk.1.1.2⟩⟩⟩⟩⟩⟩)), (by (with_reducible repeat (first | apply Kd.R_alloc | apply Kd.R_drewN | apply Kd.R_drew)); exact Kd.R_mono HO376.out (fun _ hk => ⟨hk.1.1.1.1.1.1.2, ⟨hk.1.1.1.1.1.2, ⟨hk.1.1.1.1.2, ⟨hk.1.1.1.2, ⟨hk.1.1.2, ⟨hk.2, hk.1.2⟩⟩⟩⟩⟩⟩)), (by (with_reducible repeat (first | apply Kd.R_alloc | apply Kd.R_drewN | apply Kd.R_drew)); exact Kd.R_mono HO380.out (fun _ hk => ⟨hk.1.1.1.1.1.1.2, ⟨hk.1.1.1.1.1.2, ⟨hk.1.1.1.1.2, ⟨hk.1.1.1.2, ⟨hk.1.1.2, ⟨hk.1.2, hk.2⟩⟩⟩⟩⟩⟩)), (by (with_reducible repeat (first | apply Kd.R_alloc | apply Kd.R_drewN | apply Kd.R_drew)); exact Kd.R_mono HO383.out (fun _ hk => ⟨hk.1.2, hk.2⟩)), (by (with_reducible repeat (first | refine blk_drewN ?_ _ | refine blk_drew ?_ | refine blk_alloc ?_ _)); exact BK340.out), (by (with_reducible repeat (first | refine blk_drewN ?_ _ | refine blk_drew ?_ | refine blk_alloc ?_ _)); exact BK341.out), (by (with_reducible repeat (first | refine blk_drewN ?_ _ | refine blk_drew ?_ | refine blk_alloc ?_ _)); exact BK342.out), (by repeat (first | (with_reducible first | exact HB.out | apply below_alloc | apply pw_below_drewN | apply below_drew1 | refine below_set ?_ GE340.out | refine below_set ?_ GE341.out | refine below_set ?_ GE342.out) | exact HB.out))⟩)
                    rintro ⟨v379, v382⟩ w60 ⟨hS_, h0_, h1_, h2_, h3_, h4_, h5_, h6_, h7_, h8_, h9_, h10_, h11_, h12_⟩
                    have n0_ : Aside0 (Kd.R k46 46 w60 w.heap.size (fun k_ => some k_ ≠ (v382 : Value).ownBlock ∧ k_ ≠ gb342) (.slice Ao42 y353.length co42) y353) := ⟨h0_⟩
                    have n1_ : Aside0 (Kd.R k25 25 w60 w.heap.size (fun k_ => some k_ ≠ (.slice Ao49 t360.length co49 : Value).ownBlock ∧ some k_ ≠ (.slice Ao50 t363.length co50 : Value).ownBlock ∧ some k_ ≠ (.slice Ao52 t367.length co52 : Value).ownBlock ∧ some k_ ≠ (.slice Ao55 t371.length co55 : Value).ownBlock ∧ some k_ ≠ (.slice Ao56 t374.length co56 : Value).ownBlock ∧ some k_ ≠ (v379 : Value).ownBlock ∧ k_ ≠ gb340) (.slice Ao44 t356.length co44) t356) := ⟨h1_⟩
                    have n2_ : Aside0 (Kd.R k25 25 w60 w.heap.size (fun k_ => some k_ ≠ (.slice Ao44 t356.length co44 : Value).ownBlock ∧ some k_ ≠ (.slice Ao50 t363.length co50 : Value).ownBlock ∧ some k_ ≠ (.slice Ao52 t367.length co52 : Value).ownBlock ∧ some k_ ≠ (.slice Ao55 t371.length co55 : Value).ownBlock ∧ some k_ ≠ (.slice Ao56 t374.length co56 : Value).ownBlock ∧ some k_ ≠ (v379 : Value).ownBlock ∧ k_ ≠ gb340) (.slice Ao49 t360.length co49) t360) := ⟨h2_⟩
                    have n3_ : Aside0 (Kd.R k25 25 w60 w.heap.size (fun k_ => some k_ ≠ (.slice Ao44 t356.length co44 : Value).ownBlock ∧ some k_ ≠ (.slice Ao49 t360.length co49 : Value).ownBlock ∧ some k_ ≠ (.slice Ao52 t367.length co52 : Value).ownBlock ∧ some k_ ≠ (.slice Ao55 t371.length co55 : Value).ownBlock ∧ some k_ ≠ (.slice Ao56 t374.length co56 : Value).ownBlock ∧ some k_ ≠ (v379 : Value).ownBlock ∧ k_ ≠ gb340) (.slice Ao50 t363.length co50) t363) := ⟨h3_⟩
                    have n4_ : Aside0 (Kd.R k25 25 w60 w.heap.size (fun k_ => some k_ ≠ (.slice Ao44 t356.length co44 : Value).ownBlock ∧ some k_ ≠ (.slice Ao49 t360.length co49 : Value).ownBlock ∧ some k_ ≠ (.slice Ao50 t363.length co50 : Value).ownBlock ∧ some k_ ≠ (.slice Ao55 t371.length co55 : Value).ownBlock ∧ some k_ ≠ (.slice Ao56 t374.length co56 : Value).ownBlock ∧ some k_ ≠ (v379 : Value).ownBlock ∧ k_ ≠ gb340) (.slice Ao52 t367.length co52) t367) := ⟨h4_⟩
                    have n5_ : Aside0 (Kd.R k25 25 w60 w.heap.size (fun k_ => some k_ ≠ (.slice Ao44 t356.length co44 : Value).ownBlock ∧ some k_ ≠ (.slice Ao49 t360.length co49 : Value).ownBlock ∧ some k_ ≠ (.slice Ao50 t363.length co50 : Value).ownBlock ∧ some k_ ≠ (.slice Ao52 t367.length co52 : Value).ownBlock ∧ some k_ ≠ (.slice Ao56 t374.length co56 : Value).ownBlock ∧ some k_ ≠ (v379 : Value).ownBlock ∧ k_ ≠ gb340) (.slice Ao55 t371.length co55) t371) := ⟨h5_⟩
                    have n6_ : Aside0 (Kd.R k25 25 w60 w.heap.size (fun k_ => some k_ ≠ (.slice Ao44 t356.length co44 : Value).ownBlock ∧ some k_ ≠ (.slice Ao49 t360.length co49 : Value).ownBlock ∧ some k_ ≠ (.slice Ao50 t363.length co50 : Value).ownBlock ∧ some k_ ≠ (.slice Ao52 t367.length co52 : Value).ownBlock ∧ some k_ ≠ (.slice Ao55 t371.length co55 : Value).ownBlock ∧ some k_ ≠ (v379 : Value).ownBlock ∧ k_ ≠ gb340) (.slice Ao56 t374.length co56) t374) := ⟨h6_⟩
                    have n7_ : Aside0 (Kd.R k25 25 w60 w.heap.size (fun k_ => some k_ ≠ (.slice Ao44 t356.length co44 : Value).ownBlock ∧ some k_ ≠ (.slice Ao49 t360.length co49 : Value).ownBlock ∧ some k_ ≠ (.slice Ao50 t363.length co50 : Value).ownBlock ∧ some k_ ≠ (.slice Ao52 t367.length co52 : Value).ownBlock ∧ some k_ ≠ (.slice Ao55 t371.length co55 : Value).ownBlock ∧ some k_ ≠ (.slice Ao56 t374.length co56 : Value).ownBlock ∧ k_ ≠ gb340) v379 t378) := ⟨h7_⟩
                    have n8_ : Aside0 (Kd.R k46 46 w60 w.heap.size (fun k_ => some k_ ≠ (.slice Ao42 y353.length co42 : Value).ownBlock ∧ k_ ≠ gb342) v382 y381) := ⟨h8_⟩
                    have n9_ : Aside0 (w60.heap[gb340]? = some (.cells #[.string a1_0, .string a1_1] 25 (0, 0))) := ⟨h9_⟩
                    have n10_ : Aside0 (w60.heap[gb341]? = some (.cells #[.string a2_0, .string a2_1] 48 (0, 0))) := ⟨h10_⟩
                    have n11_ : Aside0 (w60.heap[gb342]? = some (.cells #[.int .u8 a3_0, .int .i64 a3_1, .string a3_2, .string a3_3, .string a3_4, .int .u64 a3_5] 46 (0, 0))) := ⟨h11_⟩
                    have n12_ : Aside0 (Below w.heap.size w w60) := ⟨h12_⟩
                    clear HO355
                    clear HO358
                    clear BK340
                    clear BK341
                    clear BK342
                    clear HB
                    clear h0_ h1_ h2_ h3_ h4_ h5_ h6_ h7_ h8_ h9_ h10_ h11_ h12_
                    have HO355 := n0_
                    have HO358 := n1_
                    have HO362 := n2_
                    have HO365 := n3_
                    have HO369 := n4_
                    have HO373 := n5_
                    have HO376 := n6_
                    have HO380 := n7_
                    have HO383 := n8_
                    have BK340 := n9_
                    have BK341 := n10_
                    have BK342 := n11_
                    have HB := n12_
                    clear n0_ n1_ n2_ n3_ n4_ n5_ n6_ n7_ n8_ n9_ n10_ n11_ n12_
                    have hHeld : w60.cell? ⟨gb340, 0, none⟩ = some (.string a1_0) ∧ w60.cell? ⟨gb340, 1, none⟩ = some (.string a1_1) ∧ w60.cell? ⟨gb341, 0, none⟩ = some (.string a2_0) ∧ w60.cell? ⟨gb341, 1, none⟩ = some (.string a2_1) ∧ w60.cell? ⟨gb342, 0, none⟩ = some (.int .u8 a3_0) ∧ w60.cell? ⟨gb342, 1, none⟩ = some (.int .i64 a3_1) ∧ w60.cell? ⟨gb342, 2, none⟩ = some (.string a3_2) ∧ w60.cell? ⟨gb342, 3, none⟩ = some (.string a3_3) ∧ w60.cell? ⟨gb342, 4, none⟩ = some (.string a3_4) ∧ w60.cell? ⟨gb342, 5, none⟩ = some (.int .u64 a3_5) := hS_
                    obtain ⟨Ao61, co61, eo61⟩ := Kd.R_slice HO383.out
                    (first | subst eo61 | (injection eo61 with f1_ f2_ f3_; have f4_ := f1_.symm; have f5_ := f3_.symm; clear f1_ f2_ f3_; subst f4_; subst f5_))
                    refine norm_ (a' := ?_) ?_ ?_
                    rotate_left
                    · simp only [putAll, Act.put, List.setIfInBounds_toArray, List.set_cons_zero, List.set_cons_succ]
                      rfl
                    refine one_ (i := 45) (N := some 86) #[true, true, true, true, true, true, true, true, true, true, true, true, true, true, true, true, true, true, true, true, true, true, true, true, true, true, true, true, true, true, true, true, true, true, true, true, true, true, true, true, true, true, true, true, true, true, false, false, false] rfl rfl (one_of HT_.out (by kernel_rfl)) (by decide) (fun K hK => ?_)
                    refine goes_ Try.func64 (by kernel_rfl) rfl #[.slice Ao61 y381.length co61, .slice A0 y343.length c0, .agg #[.string (⟨#[]⟩ : ByteArray), .string (⟨#[]⟩ : ByteArray)]] (by rfl) rfl rfl (by (try simp only [List.map_toArray, List.map_cons, List.map_nil]); first | done | rfl | (simp only [List.length_drop, List.length_take]; rfl)) ?_
                    with_reducible refine (catchmentref05_Entries.calls k _ _ y381 _ _ y343 (⟨#[]⟩ : ByteArray) (⟨#[]⟩ : ByteArray) t384 _ ?side1 ?side2 ?side3 ?side4 A29.out).mono ?_
                    (case side1 => repeat (first | exact (Kd.R_reads' HO383.out).2.2 | (with_reducible refine Kd.C_alloc ?_ _) | (with_reducible refine Kd.C_drewN ?_ _) | (with_reducible refine Kd.C_drew ?_)))
                    (case side2 => exact (Kd.R_reads' HO383.out).2.1)
                    (case side3 => repeat (first | exact (Kd.C_below HR346.out HB.out) | (with_reducible refine Kd.C_alloc ?_ _) | (with_reducible refine Kd.C_drewN ?_ _) | (with_reducible refine Kd.C_drew ?_)))
                    (case side4 => exact HC346.out)
                    rintro e w62 ⟨v385, rfl, ho0, hb⟩
                    refine ⟨_, rfl, ?_⟩
                    have n0_ := Aside0.mk (Kd.R_below (by (with_reducible repeat (first | apply Kd.R_alloc | apply Kd.R_drewN | apply Kd.R_drew)); exact HO355.out) hb)
                    have n1_ := Aside0.mk (Kd.R_elder' (by (with_reducible repeat (first | apply Kd.R_alloc | apply Kd.R_drewN | apply Kd.R_drew)); exact HO358.out) (Kd.R_base ho0) hb)
                    have n2_ := Aside0.mk (Kd.R_elder' (by (with_reducible repeat (first | apply Kd.R_alloc | apply Kd.R_drewN | apply Kd.R_drew)); exact HO362.out) (Kd.R_base ho0) hb)
                    have n3_ := Aside0.mk (Kd.R_elder' (by (with_reducible repeat (first | apply Kd.R_alloc | apply Kd.R_drewN | apply Kd.R_drew)); exact HO365.out) (Kd.R_base ho0) hb)
                    have n4_ := Aside0.mk (Kd.R_elder' (by (with_reducible repeat (first | apply Kd.R_alloc | apply Kd.R_drewN | apply Kd.R_drew)); exact HO369.out) (Kd.R_base ho0) hb)
                    have n5_ := Aside0.mk (Kd.R_elder' (by (with_reducible repeat (first | apply Kd.R_alloc | apply Kd.R_drewN | apply Kd.R_drew)); exact HO373.out) (Kd.R_base ho0) hb)
                    have n6_ := Aside0.mk (Kd.R_elder' (by (with_reducible repeat (first | apply Kd.R_alloc | apply Kd.R_drewN | apply Kd.R_drew)); exact HO376.out) (Kd.R_base ho0) hb)
                    have n7_ := Aside0.mk (Kd.R_elder' (by (with_reducible repeat (first | apply Kd.R_alloc | apply Kd.R_drewN | apply Kd.R_drew)); exact HO380.out) (Kd.R_base ho0) hb)
                    have n8_ := Aside0.mk (Kd.R_below (by (with_reducible repeat (first | apply Kd.R_alloc | apply Kd.R_drewN | apply Kd.R_drew)); exact HO383.out) hb)
                    have n9_ := Aside0.mk (Kd.R_lower (Kd.R_newB (Kd.R_new' (Kd.R_new' (Kd.R_new' (Kd.R_new' (Kd.R_new' (Kd.R_new' (Kd.R_new' ho0 (Kd.R_lt (by (with_reducible repeat (first | apply Kd.R_alloc | apply Kd.R_drewN | apply Kd.R_drew)); exact HO358.out))) (Kd.R_lt (by (with_reducible repeat (first | apply Kd.R_alloc | apply Kd.R_drewN | apply Kd.R_drew)); exact HO362.out))) (Kd.R_lt (by (with_reducible repeat (first | apply Kd.R_alloc | apply Kd.R_drewN | apply Kd.R_drew)); exact HO365.out))) (Kd.R_lt (by (with_reducible repeat (first | apply Kd.R_alloc | apply Kd.R_drewN | apply Kd.R_drew)); exact HO369.out))) (Kd.R_lt (by (with_reducible repeat (first | apply Kd.R_alloc | apply Kd.R_drewN | apply Kd.R_drew)); exact HO373.out))) (Kd.R_lt (by (with_reducible repeat (first | apply Kd.R_alloc | apply Kd.R_drewN | apply Kd.R_drew)); exact HO376.out))) (Kd.R_lt (by (with_reducible repeat (first | apply Kd.R_alloc | apply Kd.R_drewN | apply Kd.R_drew)); exact HO380.out))) (g := gb340) (o := .cells #[.string a1_0, .string a1_1] 25 (0, 0)) (by (with_reducible repeat (first | refine blk_drewN ?_ _ | refine blk_drew ?_ | refine blk_alloc ?_ _)); exact BK340.out)) (below_size (by repeat (first | (with_reducible first | exact HB.out | apply below_alloc | apply pw_below_drewN | apply below_drew1 | refine below_set ?_ GE340.out | refine below_set ?_ GE341.out | refine below_set ?_ GE342.out) | exact HB.out))))
                    have n10_ := Aside0.mk (blk_below (g := gb340) (o := .cells #[.string a1_0, .string a1_1] 25 (0, 0)) (by (with_reducible repeat (first | refine blk_drewN ?_ _ | refine blk_drew ?_ | refine blk_alloc ?_ _)); exact BK340.out) hb)
                    have n11_ := Aside0.mk (blk_below (g := gb341) (o := .cells #[.string a2_0, .string a2_1] 48 (0, 0)) (by (with_reducible repeat (first | refine blk_drewN ?_ _ | refine blk_drew ?_ | refine blk_alloc ?_ _)); exact BK341.out) hb)
                    have n12_ := Aside0.mk (blk_below (g := gb342) (o := .cells #[.int .u8 a3_0, .int .i64 a3_1, .string a3_2, .string a3_3, .string a3_4, .int .u64 a3_5] 46 (0, 0)) (by (with_reducible repeat (first | refine blk_drewN ?_ _ | refine blk_drew ?_ | refine blk_alloc ?_ _)); exact BK342.out) hb)
                    have n13_ := Aside0.mk (below_step (by repeat (first | (with_reducible first | exact HB.out | apply below_alloc | apply pw_below_drewN | apply below_drew1 | refine below_set ?_ GE340.out | refine below_set ?_ GE341.out | refine below_set ?_ GE342.out) | exact HB.out)) hb)
                    clear HO355
                    clear HO358
                    clear HO362
                    clear HO365
                    clear HO369
                    clear HO373
                    clear HO376
                    clear HO380
                    clear HO383
                    clear BK340
                    clear BK341
                    clear BK342
                    clear HB
                    have HO355 := n0_
                    have HO358 := n1_
                    have HO362 := n2_
                    have HO365 := n3_
                    have HO369 := n4_
                    have HO373 := n5_
                    have HO376 := n6_
                    have HO380 := n7_
                    have HO383 := n8_
                    have HO386 := n9_
                    have BK340 := n10_
                    have BK341 := n11_
                    have BK342 := n12_
                    have HB := n13_
                    clear n0_ n1_ n2_ n3_ n4_ n5_ n6_ n7_ n8_ n9_ n10_ n11_ n12_ n13_
                    (try clear hb)
                    (try clear hb2)
                    (try clear hk)
                    (try clear hi)
                    (try clear ho0)
                    obtain ⟨Ao63, co63, eo63⟩ := Kd.R_slice HO380.out
                    (first | subst eo63 | (injection eo63 with f1_ f2_ f3_; have f4_ := f1_.symm; have f5_ := f3_.symm; clear f1_ f2_ f3_; subst f4_; subst f5_))
                    obtain ⟨Ao64, co64, eo64⟩ := Kd.R_slice HO386.out
                    (first | subst eo64 | (injection eo64 with f1_ f2_ f3_; have f4_ := f1_.symm; have f5_ := f3_.symm; clear f1_ f2_ f3_; subst f4_; subst f5_))
                    refine hK.out _ _ ⟨(blk_cell BK340.out 0).trans rfl, (blk_cell BK340.out 1).trans rfl, (blk_cell BK341.out 0).trans rfl, (blk_cell BK341.out 1).trans rfl, (blk_cell BK342.out 0).trans rfl, (blk_cell BK342.out 1).trans rfl, (blk_cell BK342.out 2).trans rfl, (blk_cell BK342.out 3).trans rfl, (blk_cell BK342.out 4).trans rfl, (blk_cell BK342.out 5).trans rfl⟩ (fun hHeld => ?_)
                    clear hK K
                    refine norm_ (a' := ?_) ?_ ?_
                    rotate_left
                    · show Act.put _ (some 86) _ = _
                      simp only [Act.put, List.setIfInBounds_toArray, List.set_cons_zero, List.set_cons_succ, i64_w, i32_w]
                      rfl
                    refine one_ (i := 46) (N := some 87) #[true, true, true, true, true, true, true, true, true, true, true, true, true, true, true, true, true, true, true, true, true, true, true, true, true, true, true, true, true, true, true, true, true, true, true, true, true, true, true, true, true, true, true, true, true, true, true, false, false] rfl rfl (one_of HT_.out (by kernel_rfl)) (by decide) (fun K hK => ?_)
                    refine goes_ Try.func21 (by kernel_rfl) rfl #[.slice Ao63 t378.length co63, .slice Ao64 t384.length co64] (by rfl) rfl rfl (by (try simp only [List.map_toArray, List.map_cons, List.map_nil]); first | done | rfl | (simp only [List.length_drop, List.length_take]; rfl)) ?_
                    with_reducible refine (catchmentref05_Same.calls k _ _ t378 _ _ t384 t387 _ ?side1 ?side2 ?side3 ?side4 A30.out).mono ?_
                    (case side1 => repeat (first | exact (Kd.R_reads' HO380.out).2.2 | (with_reducible refine Kd.C_alloc ?_ _) | (with_reducible refine Kd.C_drewN ?_ _) | (with_reducible refine Kd.C_drew ?_)))
                    (case side2 => exact (Kd.R_reads' HO380.out).2.1)
                    (case side3 => repeat (first | exact (Kd.R_reads' HO386.out).2.2 | (with_reducible refine Kd.C_alloc ?_ _) | (with_reducible refine Kd.C_drewN ?_ _) | (with_reducible refine Kd.C_drew ?_)))
                    (case side4 => exact (Kd.R_reads' HO386.out).2.1)
                    rintro e w' ⟨rfl, ⟨nd, rfl⟩⟩
                    refine ⟨_, rfl, ?_⟩
                    refine hK.out _ _ ⟨(blk_cell BK340.out 0).trans rfl, (blk_cell BK340.out 1).trans rfl, (blk_cell BK341.out 0).trans rfl, (blk_cell BK341.out 1).trans rfl, (blk_cell BK342.out 0).trans rfl, (blk_cell BK342.out 1).trans rfl, (blk_cell BK342.out 2).trans rfl, (blk_cell BK342.out 3).trans rfl, (blk_cell BK342.out 4).trans rfl, (blk_cell BK342.out 5).trans rfl⟩ (fun hHeld => ?_)
                    clear hK K
                    refine norm_ (a' := ?_) ?_ ?_
                    rotate_left
                    · show Act.put _ (some 87) _ = _
                      simp only [Act.put, List.setIfInBounds_toArray, List.set_cons_zero, List.set_cons_succ, i64_w, i32_w]
                      rfl
                    refine pure_ (i := 47) (N := some 88) (v := ?_) (a' := ?_) #[true, true, true, true, true, true, true, true, true, true, true, true, true, true, true, true, true, true, true, true, true, true, true, true, true, true, true, true, true, true, true, true, true, true, true, true, true, true, true, true, true, true, true, true, true, true, true, true, false] rfl rfl (any_of HT_.out (by kernel_rfl)) (fun _ _ _ h => h) (Or.inl ⟨by rfl, ?_⟩) ?_ ?_
                    rotate_left
                    · intro w'
                      go_simp
                      with_reducible rfl
                    rotate_left
                    · simp only [Act.put, List.setIfInBounds_toArray, List.set_cons_zero, List.set_cons_succ, i64_w, i32_w]
                      rfl
                    refine pure_ (i := 48) (N := some 8) (v := ?_) (a' := ?_) #[true, true, true, true, true, true, true, true, true, true, true, true, true, true, true, true, true, true, true, true, true, true, true, true, true, true, true, true, true, true, true, true, true, true, true, true, true, true, true, true, true, true, true, true, true, true, true, true, true] rfl rfl (any_of HT_.out (by kernel_rfl)) (fun _ _ _ h => h) (Or.inl ⟨by rfl, ?_⟩) ?_ ?_
                    rotate_left
                    · intro w'
                      go_simp
                      with_reducible rfl
                    rotate_left
                    · simp only [Act.put, List.setIfInBounds_toArray, List.set_cons_zero, List.set_cons_succ, i64_w, i32_w]
                      rfl
                    refine done_ (done_of HT_.out (by kernel_rfl)) ?_
                    try go_wp2
                    go_ret
                    exact ⟨by first | rfl | (simp [errW_none, errW_some] <;> rfl) | (simp only [← hji5]; first | rfl | (simp [errW_none, errW_some] <;> rfl)) | (simp [*, errW_none, errW_some] <;> rfl), by repeat (first | (with_reducible first | exact HB.out | apply below_alloc | apply pw_below_drewN | apply below_drew1 | refine below_set ?_ GE340.out | refine below_set ?_ GE341.out | refine below_set ?_ GE342.out) | exact HB.out)⟩
                  · replace c27 := Bool.eq_false_iff.mpr c27
                    subst c27
                    have H1 : (none) = some r := by rw [if_neg (show ¬ (false = true) by decide)] at H; exact H
                    clear H
                    have H := H1
                    clear H1
                    exact absurd H (by simp)
                · replace c23 := Bool.eq_false_iff.mpr c23
                  subst c23
                  have H1 : (none) = some r := by rw [if_neg (show ¬ (false = true) by decide)] at H; exact H
                  clear H
                  have H := H1
                  clear H1
                  exact absurd H (by simp)
              · replace c20 := Bool.eq_false_iff.mpr c20
                subst c20
                have H1 : (none) = some r := by rw [if_neg (show ¬ (false = true) by decide)] at H; exact H
                clear H
                have H := H1
                clear H1
                exact absurd H (by simp)
            · rw [if_neg c16] at H
              exact absurd H (by simp)
          · rw [if_neg c15] at H
            exact absurd H (by simp)
        · replace c14 := Bool.eq_false_iff.mpr c14
          subst c14
          have H1 : (none) = some r := by rw [if_neg (show ¬ (false = true) by decide)] at H; exact H
          clear H
          have H := H1
          clear H1
          exact absurd H (by simp)
      · replace c9 := Bool.eq_false_iff.mpr c9
        subst c9
        have H1 : ((catchmentlaw10_live.f k).bind fun t348 => (some t348)) = some r := by rw [if_neg (show ¬ (false = true) by decide)] at H; exact H
        clear H
        have H := H1
        clear H1
        replace H := Option.bind_eq_some_iff.mp H
        obtain ⟨t348, A650, H⟩ := H
        replace H : (some t348) = some r := H
        have A65 := Aside0.mk A650
        clear A650
        obtain rfl := Option.some.inj H
        have HFEW := Aside0.mk (show ∀ W : World, Calls Try.prog 15 #[.slice A0 l0.length c0] W (fun e w' => e = .returned (.slice A0 y343.length c0) ∧ W = w') from fun W => by have h_ := catchmentlaw10_BlockDoes_few_read A0 c0 l0 HC0.out W; rw [hji5, ← Ny343.out] at h_; exact h_.mono fun _ _ h => ⟨h.1, h.2.symm⟩)
        go_enter Try.func13, Try.ntmps13
        go_wp2_with (first | (go_at_call 15; refine (HFEW.out _).mono ?_; rintro e w_ ⟨rfl, rfl⟩) | ((with_reducible refine gate_dst (N := 5) rfl ?_); (try (refine gate_guard (by rfl) ?_; dsimp only)); refine box_event ?hg (N := 5) ?hd (cs := #[.string a1_0, .string a1_1]) (t := 25) ?hr ?_; (case hd => rfl); (case hg => rfl); (case hr => first | (go_simp; done) | (go_simp; rfl)); intro gb340 hg w66 hbox hb; have n0_ := Aside0.mk (below_step (by repeat (first | (with_reducible first | exact HB.out | apply below_alloc | apply pw_below_drewN | apply below_drew1) | exact HB.out)) hb); have n1_ := Aside0.mk (hbox); have n2_ := Aside0.mk ((by rw [hg]; exact (below_size (by repeat (first | (with_reducible first | exact HB.out | apply below_alloc | apply pw_below_drewN | apply below_drew1) | exact HB.out))) : w.heap.size ≤ gb340)); have n3_ := Aside0.mk ((by rw [hg]; exact (below_size (by repeat (first | (with_reducible first | exact HB.out | apply below_alloc | apply pw_below_drewN | apply below_drew1) | exact HB.out))) : w.heap.size ≤ gb340)); clear HB; have HB := n0_; have BK340 := n1_; have GW340 := n2_; have GE340 := n3_; clear n0_ n1_ n2_ n3_; clear hb hbox hg) | ((with_reducible refine gate_dst (N := 6) rfl ?_); (try (refine gate_guard (by rfl) ?_; dsimp only)); refine box_event ?hg (N := 6) ?hd (cs := #[.string a2_0, .string a2_1]) (t := 48) ?hr ?_; (case hd => rfl); (case hg => rfl); (case hr => first | (go_simp; done) | (go_simp; rfl)); intro gb341 hg w67 hbox hb; have n0_ := Aside0.mk (blk_below (g := gb340) (o := .cells #[.string a1_0, .string a1_1] 25 (0, 0)) (by (with_reducible repeat (first | refine blk_drewN ?_ _ | refine blk_drew ?_ | refine blk_alloc ?_ _)); exact BK340.out) hb); have n1_ := Aside0.mk (below_step (by repeat (first | (with_reducible first | exact HB.out | apply below_alloc | apply pw_below_drewN | apply below_drew1 | refine below_set ?_ GE340.out) | exact HB.out)) hb); have n2_ := Aside0.mk (hbox); have n3_ := Aside0.mk ((by rw [hg]; exact (below_size (by repeat (first | (with_reducible first | exact HB.out | apply below_alloc | apply pw_below_drewN | apply below_drew1 | refine below_set ?_ GE340.out) | exact HB.out))) : w.heap.size ≤ gb341)); have n4_ := Aside0.mk ((by rw [hg]; exact (below_size (by repeat (first | (with_reducible first | exact HB.out | apply below_alloc | apply pw_below_drewN | apply below_drew1 | refine below_set ?_ GE340.out) | exact HB.out))) : w.heap.size ≤ gb341)); have n5_ := Aside0.mk ((by rw [hg]; exact Nat.ne_of_lt (blk_lt (g := gb340) (o := .cells #[.string a1_0, .string a1_1] 25 (0, 0)) (by (with_reducible repeat (first | refine blk_drewN ?_ _ | refine blk_drew ?_ | refine blk_alloc ?_ _)); exact BK340.out)) : gb340 ≠ gb341)); have n6_ := Aside0.mk ((by rw [hg]; exact Nat.ne_of_gt (blk_lt (g := gb340) (o := .cells #[.string a1_0, .string a1_1] 25 (0, 0)) (by (with_reducible repeat (first | refine blk_drewN ?_ _ | refine blk_drew ?_ | refine blk_alloc ?_ _)); exact BK340.out)) : gb341 ≠ gb340)); clear BK340; clear HB; have BK340 := n0_; have HB := n1_; have BK341 := n2_; have GW341 := n3_; have GE341 := n4_; have NB340_341 := n5_; have NB341_340 := n6_; clear n0_ n1_ n2_ n3_ n4_ n5_ n6_; clear hb hbox hg) | ((with_reducible refine gate_dst (N := 7) rfl ?_); (try (refine gate_guard (by rfl) ?_; dsimp only)); refine box_event ?hg (N := 7) ?hd (cs := #[.int .u8 a3_0, .int .i64 a3_1, .string a3_2, .string a3_3, .string a3_4, .int .u64 a3_5]) (t := 46) ?hr ?_; (case hd => rfl); (case hg => rfl); (case hr => first | (go_simp; done) | (go_simp; rfl)); intro gb342 hg w68 hbox hb; have n0_ := Aside0.mk (blk_below (g := gb340) (o := .cells #[.string a1_0, .string a1_1] 25 (0, 0)) (by (with_reducible repeat (first | refine blk_drewN ?_ _ | refine blk_drew ?_ | refine blk_alloc ?_ _)); exact BK340.out) hb); have n1_ := Aside0.mk (blk_below (g := gb341) (o := .cells #[.string a2_0, .string a2_1] 48 (0, 0)) (by (with_reducible repeat (first | refine blk_drewN ?_ _ | refine blk_drew ?_ | refine blk_alloc ?_ _)); exact BK341.out) hb); have n2_ := Aside0.mk (below_step (by repeat (first | (with_reducible first | exact HB.out | apply below_alloc | apply pw_below_drewN | apply below_drew1 | refine below_set ?_ GE340.out | refine below_set ?_ GE341.out) | exact HB.out)) hb); have n3_ := Aside0.mk (hbox); have n4_ := Aside0.mk ((by rw [hg]; exact (below_size (by repeat (first | (with_reducible first | exact HB.out | apply below_alloc | apply pw_below_drewN | apply below_drew1 | refine below_set ?_ GE340.out | refine below_set ?_ GE341.out) | exact HB.out))) : w.heap.size ≤ gb342)); have n5_ := Aside0.mk ((by rw [hg]; exact (below_size (by repeat (first | (with_reducible first | exact HB.out | apply below_alloc | apply pw_below_drewN | apply below_drew1 | refine below_set ?_ GE340.out | refine below_set ?_ GE341.out) | exact HB.out))) : w.heap.size ≤ gb342)); have n6_ := Aside0.mk ((by rw [hg]; exact Nat.ne_of_lt (blk_lt (g := gb340) (o := .cells #[.string a1_0, .string a1_1] 25 (0, 0)) (by (with_reducible repeat (first | refine blk_drewN ?_ _ | refine blk_drew ?_ | refine blk_alloc ?_ _)); exact BK340.out)) : gb340 ≠ gb342)); have n7_ := Aside0.mk ((by rw [hg]; exact Nat.ne_of_gt (blk_lt (g := gb340) (o := .cells #[.string a1_0, .string a1_1] 25 (0, 0)) (by (with_reducible repeat (first | refine blk_drewN ?_ _ | refine blk_drew ?_ | refine blk_alloc ?_ _)); exact BK340.out)) : gb342 ≠ gb340)); have n8_ := Aside0.mk ((by rw [hg]; exact Nat.ne_of_lt (blk_lt (g := gb341) (o := .cells #[.string a2_0, .string a2_1] 48 (0, 0)) (by (with_reducible repeat (first | refine blk_drewN ?_ _ | refine blk_drew ?_ | refine blk_alloc ?_ _)); exact BK341.out)) : gb341 ≠ gb342)); have n9_ := Aside0.mk ((by rw [hg]; exact Nat.ne_of_gt (blk_lt (g := gb341) (o := .cells #[.string a2_0, .string a2_1] 48 (0, 0)) (by (with_reducible repeat (first | refine blk_drewN ?_ _ | refine blk_drew ?_ | refine blk_alloc ?_ _)); exact BK341.out)) : gb342 ≠ gb341)); clear BK340; clear BK341; clear HB; have BK340 := n0_; have BK341 := n1_; have HB := n2_; have BK342 := n3_; have GW342 := n4_; have GE342 := n5_; have NB340_342 := n6_; have NB342_340 := n7_; have NB341_342 := n8_; have NB342_341 := n9_; clear n0_ n1_ n2_ n3_ n4_ n5_ n6_ n7_ n8_ n9_; clear hb hbox hg; have q69 : ((ji5) : Int) ≤ ((l0.length : Int) : Int) := of_decide_eq_true (by first | (with_reducible assumption) | assumption); obtain ⟨i069, hi069, _, hsz69, _⟩ := info_parts info25; have hroom69 : l0.length ≤ c0 := HC0.out; have hC69 : Kd.C k25 _ A0 l0.length l0 := HR0.out; have hcut69 := cut_to (P := Try.prog) 22 25 .i64 Try.underlying22 hi069 A0 l0.length c0 (ji5) (of_decide_eq_true (by first | (with_reducible assumption) | assumption)) q69 hroom69; have hr69 := Kd.C_take (m := ((ji5) : Int).toNat) hC69 (by omega); have hy69 : y343.length = ((ji5) : Int).toNat := (by rw [Ny343.out, List.length_take]; omega); rw [← Ny343.out] at hr69; rw [← hy69] at hcut69; have HR346 := Aside0.mk hr69; have HC346 := Aside0.mk (show y343.length ≤ c0 from by omega); clear hr69 hC69 hroom69 hi069 hsz69; have KY69 := Aside0.mk hy69; clear hy69; replace q69 := eq_true q69) | ((with_reducible refine gate_callee (f := 22) rfl ?_); refine goesL_ (some 17) rfl rfl Try.func22 (by kernel_rfl) rfl #[.slice A0 y343.length c0] rfl (by (try simp only [List.map_toArray, List.map_cons, List.map_nil]); first | done | rfl | (simp only [List.length_drop, List.length_take]; rfl)) ?_; (with_reducible refine (catchmentref05_Rises.calls k _ _ y343 false _ ?side1 ?side2 A8.out).mono ?_); (case side1 => repeat (first | exact (Kd.C_below HR346.out HB.out) | (with_reducible refine Kd.C_alloc ?_ _) | (with_reducible refine Kd.C_drewN ?_ _) | (with_reducible refine Kd.C_drew ?_))); (case side2 => exact HC346.out); rintro e w' ⟨rfl, ⟨nd, rfl⟩⟩; refine ⟨_, rfl, ?_⟩) | ((with_reducible refine gate_callee (f := 16) rfl ?_); refine goesL_ (some 19) rfl rfl Try.func16 (by kernel_rfl) rfl #[] rfl (by (try simp only [List.map_toArray, List.map_cons, List.map_nil]); first | done | rfl | (simp only [List.length_drop, List.length_take]; rfl)) ?_; (with_reducible refine (catchmentlaw10_live.calls k  t348 _ A65.out).mono ?_); rintro e w70 ⟨rfl, hb⟩; refine ⟨_, rfl, ?_⟩; have n0_ := Aside0.mk (blk_below (g := gb340) (o := .cells #[.string a1_0, .string a1_1] 25 (0, 0)) (by (with_reducible repeat (first | refine blk_drewN ?_ _ | refine blk_drew ?_ | refine blk_alloc ?_ _)); exact BK340.out) hb); have n1_ := Aside0.mk (blk_below (g := gb341) (o := .cells #[.string a2_0, .string a2_1] 48 (0, 0)) (by (with_reducible repeat (first | refine blk_drewN ?_ _ | refine blk_drew ?_ | refine blk_alloc ?_ _)); exact BK341.out) hb); have n2_ := Aside0.mk (blk_below (g := gb342) (o := .cells #[.int .u8 a3_0, .int .i64 a3_1, .string a3_2, .string a3_3, .string a3_4, .int .u64 a3_5] 46 (0, 0)) (by (with_reducible repeat (first | refine blk_drewN ?_ _ | refine blk_drew ?_ | refine blk_alloc ?_ _)); exact BK342.out) hb); have n3_ := Aside0.mk (below_step (by repeat (first | (with_reducible first | exact HB.out | apply below_alloc | apply pw_below_drewN | apply below_drew1 | refine below_set ?_ GE340.out | refine below_set ?_ GE341.out | refine below_set ?_ GE342.out) | exact HB.out)) hb); clear BK340; clear BK341; clear BK342; clear HB; have BK340 := n0_; have BK341 := n1_; have BK342 := n2_; have HB := n3_; clear n0_ n1_ n2_ n3_; (try clear hb); (try clear hb2); (try clear hk); (try clear hi)))
        go_ret
        exact ⟨by first | rfl | (simp [errW_none, errW_some] <;> rfl) | (simp only [← hji5]; first | rfl | (simp [errW_none, errW_some] <;> rfl)) | (simp [*, errW_none, errW_some] <;> rfl), by repeat (first | (with_reducible first | exact HB.out | apply below_alloc | apply pw_below_drewN | apply below_drew1 | refine below_set ?_ GE340.out | refine below_set ?_ GE341.out | refine below_set ?_ GE342.out) | exact HB.out)⟩
    · rw [if_neg c7] at H
      exact absurd H (by simp)
  · rw [if_neg c6] at H
    exact absurd H (by simp)
def ok25 (y : S25) : Prop := (fun s : ByteArray => s.size ≤ 140737488351232) y.f0 ∧ (fun s : ByteArray => s.size ≤ 140737488351232) y.f1
def ok48 (y : S48) : Prop := (fun s : ByteArray => s.size ≤ 140737488351232) y.f0 ∧ (fun s : ByteArray => s.size ≤ 140737488351232) y.f1
def ok46 (y : S46) : Prop := (fun x : Int => (Lit.int .u8 x).wf = true) y.f0 ∧ (fun x : Int => (Lit.int .i64 x).wf = true) y.f1 ∧ (fun s : ByteArray => s.size ≤ 140737488351232) y.f2 ∧ (fun s : ByteArray => s.size ≤ 140737488351232) y.f3 ∧ (fun s : ByteArray => s.size ≤ 140737488351232) y.f4 ∧ (fun x : Int => (Lit.int .u64 x).wf = true) y.f5
/-- THE ONE PURE STATEMENT of catchmentlaw10_BlockDoes. -/
def catchmentlaw10_BlockDoes.Pure : Prop := ∀ (l0 : List (S25)) (y1 : S25) (y2 : S48) (y3 : S46), (fun xs : List (S25) => xs.length ≤ maxLen ∧ xs.length * 32 ≤ 140737488351232 ∧ ∀ x ∈ xs, ok25 x) l0 → ok25 y1 → ok48 y2 → ok46 y3 → ∃ k, catchmentlaw10_BlockDoes.f k l0 y1.f0 y1.f1 y2.f0 y2.f1 y3.f0 y3.f1 y3.f2 y3.f3 y3.f4 y3.f5 = some true
theorem catchmentlaw10_BlockDoes.walk (P : catchmentlaw10_BlockDoes.Pure) (A0 : Option Addr) (c0 : Nat) (l0 : List (S25)) (y1 : S25) (y2 : S48) (y3 : S46) (w : World) (hr0 : Kd.C k25 w A0 l0.length l0) (hc0 : l0.length ≤ c0) (ok_0 : (fun xs : List (S25) => xs.length ≤ maxLen ∧ xs.length * 32 ≤ 140737488351232 ∧ ∀ x ∈ xs, ok25 x) l0) (ok_1 : ok25 y1) (ok_2 : ok48 y2) (ok_3 : ok46 y3) :
    Calls Try.prog 13 #[.slice A0 l0.length c0, .agg #[.string y1.f0, .string y1.f1], .agg #[.string y2.f0, .string y2.f1], .agg #[.int .u8 y3.f0, .int .i64 y3.f1, .string y3.f2, .string y3.f3, .string y3.f4, .int .u64 y3.f5]] w fun e w' => e = .returned (.bool true) ∧ Below w.heap.size w w' := by
  obtain ⟨k, h⟩ := P l0 y1 y2 y3 ok_0 ok_1 ok_2 ok_3
  refine (catchmentlaw10_BlockDoes.calls k A0 c0 l0 y1.f0 y1.f1 y2.f0 y2.f1 y3.f0 y3.f1 y3.f2 y3.f3 y3.f4 y3.f5 true w hr0 hc0 h).mono ?_
  rintro e w' ⟨rfl, hd⟩
  exact ⟨rfl, hd⟩

end Go.Proofs.Ytnklnjghecmihaa.H4
