-- written by a program of this session (wip/myprint.py), over the kit's printer and the session's own contracts
import Derived.Test.YtpfikmchimlneaaM3x0
import Derived.Test.YtpfikmchimlneaaM3x46
import Derived.Test.YtpfikmchimlneaaM3P0
namespace Go.Proofs.Ytpfikmchimlneaa.M3
open Go.RowKit Go.Proofs.YtpfikmchimlneaaW.PrintWords Go.Proofs.YtpfikmchimlneaaW.PrintLast Go.Proofs.YtpfikmchimlneaaW.PrintMore Go.Proofs.YtpfikmchimlneaaW.Mine
attribute [local go_sem] max2_int min2_int max_two min_two max_three min_three max_four min_four max2_str min2_str binOp_gtr_str binOp_leq_str binOp_geq_str   -- for this text's walks alone
set_option linter.unusedVariables false
set_option linter.unusedSimpArgs false

/-! ### leaf_weld: function 98 -/
-- over api_Entry_97, api_Entry_76
open Go.Proofs.YtpfikmchimlneaaW.Nest
/-- what weld tells -/
def leaf_weld.at (l : List (List S85)) (i : Nat) : List S85 := l.getD i []
def leaf_weld.can (l : List (List S85)) (i most : Int) : Bool := decide (0 ≤ i) && decide (i + 1 < (l.length : Int)) && decide (((leaf_weld.at l i.toNat).length + (leaf_weld.at l (i + 1).toNat).length : Int) ≤ most / 2)
def leaf_weld.w (l : List (List S85)) (i most : Int) : List (List S85) := if leaf_weld.can l i most = true then l.take i.toNat ++ [leaf_weld.at l i.toNat ++ leaf_weld.at l (i + 1).toNat] ++ l.drop (i.toNat + 2) else l
set_option maxHeartbeats 8000000 in
set_option maxRecDepth 100000 in
theorem leaf_weld.low {w : World} {base : Nat} {v : Value} {xs : List (List S85)} (h : NR k85 85 74 w base v xs) (i most : Int) (hi : i < 0) :
    Calls Try.prog 98 #[v, .int .i64 i, .int .i64 most] w fun e w' => e = .returned (.tuple #[v, .bool false]) ∧ ∃ q, w' = w.drewN q := by
  obtain ⟨hs, hR, hI⟩ := h
  obtain ⟨A, c, rfl⟩ := Kd.R_slice hR
  have d1 : decide (i < 0) = true := decide_eq_true hi
  clear hR hI
  go_enter Try.func98, Try.ntmps98
  go_wp2_with fail
  go_quiet (fail)
  go_wp2_with fail
  go_ret2
  exact ⟨rfl, _, rfl⟩
set_option maxHeartbeats 8000000 in
set_option maxRecDepth 100000 in
theorem leaf_weld.high {w : World} {base : Nat} {v : Value} {xs : List (List S85)} (h : NR k85 85 74 w base v xs) (i most : Int) (hi : 0 ≤ i) (hn : (xs.length : Int) ≤ i + 1) (hb : i ≤ 1000000) :
    Calls Try.prog 98 #[v, .int .i64 i, .int .i64 most] w fun e w' => e = .returned (.tuple #[v, .bool false]) ∧ ∃ q, w' = w.drewN q := by
  obtain ⟨hs, hR, hI⟩ := h
  obtain ⟨A, c, rfl⟩ := Kd.R_slice hR
  have hl := hI.1
  obtain ⟨n, hn2⟩ : ∃ n, hs.length = n := ⟨_, rfl⟩
  have d1 : decide (i < 0) = false := decide_eq_false (by omega)
  have w1 : IntKind.i64.wrap (i + 1) = i + 1 := by rw [IntKind.wrap_i64]; omega
  have d2 : decide ((n : Int) ≤ i + 1) = true := decide_eq_true (by omega)
  rw [hn2]
  clear hR hI hl hn2 hn
  go_enter Try.func98, Try.ntmps98
  go_wp2_with fail
  go_quiet (fail)
  go_wp2_with fail
  go_ret2
  exact ⟨rfl, _, rfl⟩
set_option maxHeartbeats 8000000 in
set_option maxRecDepth 100000 in
theorem leaf_weld.much {w : World} {base : Nat} {v : Value} {xs : List (List S85)} (h : NR k85 85 74 w base v xs) (i : Nat) (most : Int) (hn : i + 1 < xs.length) (hb : xs.length ≤ 1000000) (hm : 2 ≤ most) (hm2 : most ≤ 9223372036854775807) (hs1 : (leaf_weld.at xs i).length + (leaf_weld.at xs (i + 1)).length ≤ 1000000) (hbig : most / 2 < (((leaf_weld.at xs i).length + (leaf_weld.at xs (i + 1)).length : Nat) : Int)) :
    Calls Try.prog 98 #[v, .int .i64 (i : Int), .int .i64 most] w fun e w' => e = .returned (.tuple #[v, .bool false]) ∧ ∃ q, w' = w.drewN q := by
  obtain ⟨hs, hR, hI⟩ := h
  have hl := hI.1
  obtain ⟨g, c, rfl, _, _⟩ := Kd.R_form hR (by omega)
  have hrw := Rw.of hR
  have g1 : hs[i]? = some (hs[i]'(by omega)) := List.getElem?_eq_getElem (by omega)
  have g2 : hs[i + 1]? = some (hs[i + 1]'(by omega)) := List.getElem?_eq_getElem (by omega)
  have x1 : xs[i]? = some (leaf_weld.at xs i) := by unfold leaf_weld.at; rw [List.getD_eq_getElem?_getD, List.getElem?_eq_getElem (by omega)]; rfl
  have x2 : xs[i + 1]? = some (leaf_weld.at xs (i + 1)) := by unfold leaf_weld.at; rw [List.getD_eq_getElem?_getD, List.getElem?_eq_getElem (by omega)]; rfl
  obtain ⟨A1, c1, he1⟩ := Kd.R_slice (hI.2 i _ _ g1 x1)
  obtain ⟨A2, c2, he2⟩ := Kd.R_slice (hI.2 (i + 1) _ _ g2 x2)
  have b1 : w.cell? ⟨g, i, none⟩ = some (.slice A1 (leaf_weld.at xs i).length c1) := hrw.cell (by rw [List.getElem?_map, g1]; exact congrArg some he1)
  have b2 : w.cell? ⟨g, i + 1, none⟩ = some (.slice A2 (leaf_weld.at xs (i + 1)).length c2) := hrw.cell (by rw [List.getElem?_map, g2]; exact congrArg some he2)
  generalize (leaf_weld.at xs i).length = n1 at *
  generalize (leaf_weld.at xs (i + 1)).length = n2 at *
  obtain ⟨n, hn2⟩ : ∃ n, hs.length = n := ⟨_, rfl⟩
  rw [hn2]
  obtain ⟨q, hq⟩ : ∃ q, q = most / 2 := ⟨_, rfl⟩
  have hq0 : most.tdiv 2 = q := by rw [hq]; exact Int.tdiv_eq_ediv_of_nonneg (by omega)
  have w0 : IntKind.i64.wrap (most.tdiv 2) = q := by rw [hq0, IntKind.wrap_i64]; omega
  have d1 : decide ((i : Int) < 0) = false := decide_eq_false (by omega)
  have w1 : IntKind.i64.wrap ((i : Int) + 1) = (i : Int) + 1 := by rw [IntKind.wrap_i64]; omega
  have d2 : decide ((n : Int) ≤ (i : Int) + 1) = false := decide_eq_false (by omega)
  have w2 : IntKind.i64.wrap ((n1 : Int) + (n2 : Int)) = (n1 : Int) + (n2 : Int) := by rw [IntKind.wrap_i64]; omega
  have d3 : decide (q < (n1 : Int) + (n2 : Int)) = true := decide_eq_true (by omega)
  have p1 : (i : Int) < (n : Int) := by omega
  have p2 : (i : Int) + 1 < (n : Int) := by omega
  have p3 : (0 : Int) ≤ (i : Int) + 1 := by omega
  have p4 : ((i : Int) + 1).toNat = i + 1 := by omega
  have p5 : i < n := by omega
  have p6 : i + 1 < n := by omega
  clear hR hI hl hn2 hn hrw g1 g2 x1 x2 he1 he2 hq hq0 hbig
  go_enter Try.func98, Try.ntmps98
  go_wp2_with fail
  go_quiet (fail)
  go_wp2_with fail
  go_ret2
  exact ⟨rfl, _, rfl⟩
theorem leaf_weld.two {W : World} {base gx : Nat} {A1 A2 : Option Addr} {c1 c2 : Nat} {y1 y2 : List S85} (h1 : Kd.R k85 85 W base (fun _ => True) (.slice A1 y1.length c1) y1) (h2 : Kd.R k85 85 W base (fun _ => True) (.slice A2 y2.length c2) y2) (hx : W.heap[gx]? = some (.cells #[.slice A1 y1.length c1, .slice A2 y2.length c2] 74 (0, 0))) :
    Kd.C (Kd.slice 85 k85) W (some ⟨gx, 0, none⟩) 2 [y1, y2] := by
  refine ⟨rfl, by omega, fun _ => ⟨_, rfl, fun j p hj => ?_⟩⟩
  have hc : ∀ q u, (#[Value.slice A1 y1.length c1, Value.slice A2 y2.length c2] : Array Value)[q]? = some u → W.cell? ((⟨gx, 0, none⟩ : Addr).add q) = some u := fun q u hu => by
    rw [Addr.add_lit, Nat.zero_add]
    simp only [World.cell?, hx]
    exact hu
  match j, hj with
  | 0, hj =>
    obtain rfl : y1 = p := by simpa using hj
    refine ⟨[.slice A1 y1.length c1], rfl, ⟨A1, c1, rfl, (Kd.R_reads' h1).2.1, (Kd.R_reads' h1).2.2⟩, fun q u hu => ?_⟩
    match q, hu with
    | 0, hu => exact hc 0 u (by simpa using hu)
  | 1, hj =>
    obtain rfl : y2 = p := by simpa using hj
    refine ⟨[.slice A2 y2.length c2], rfl, ⟨A2, c2, rfl, (Kd.R_reads' h2).2.1, (Kd.R_reads' h2).2.2⟩, fun q u hu => ?_⟩
    match q, hu with
    | 0, hu => exact hc 1 u (by simpa using hu)
set_option maxHeartbeats 8000000 in
set_option maxRecDepth 100000 in
theorem leaf_weld.yes {w : World} {base : Nat} {v : Value} {xs : List (List S85)} (h : NR k85 85 74 w base v xs) (i : Nat) (most : Int) (hn : i + 1 < xs.length) (hb : xs.length < 1000000) (hm : 2 ≤ most) (hm2 : most ≤ 9223372036854775807) (hs1 : (leaf_weld.at xs i).length + (leaf_weld.at xs (i + 1)).length < 1000000) (hbig : (((leaf_weld.at xs i).length + (leaf_weld.at xs (i + 1)).length : Nat) : Int) ≤ most / 2) :
    Calls Try.prog 98 #[v, .int .i64 (i : Int), .int .i64 most] w fun e w' => ∃ v', e = .returned (.tuple #[v', .bool true]) ∧ NR k85 85 74 w' base v' (xs.take i ++ [leaf_weld.at xs i ++ leaf_weld.at xs (i + 1)] ++ xs.drop (i + 2)) ∧ Below base w w' := by
  have h0 := h
  obtain ⟨hs, hR, hI⟩ := h
  have hl := hI.1
  obtain ⟨g, c, rfl, hbg, hgl, _⟩ := Kd.R_form hR (by omega)
  have hrw := Rw.of hR
  have g1 : hs[i]? = some (hs[i]'(by omega)) := List.getElem?_eq_getElem (by omega)
  have g2 : hs[i + 1]? = some (hs[i + 1]'(by omega)) := List.getElem?_eq_getElem (by omega)
  have x1 : xs[i]? = some (leaf_weld.at xs i) := by unfold leaf_weld.at; rw [List.getD_eq_getElem?_getD, List.getElem?_eq_getElem (by omega)]; rfl
  have x2 : xs[i + 1]? = some (leaf_weld.at xs (i + 1)) := by unfold leaf_weld.at; rw [List.getD_eq_getElem?_getD, List.getElem?_eq_getElem (by omega)]; rfl
  have r1 := hI.2 i _ _ g1 x1
  have r2 := hI.2 (i + 1) _ _ g2 x2
  obtain ⟨A1, c1, he1⟩ := Kd.R_slice r1
  obtain ⟨A2, c2, he2⟩ := Kd.R_slice r2
  rw [he1] at r1
  rw [he2] at r2
  have b1 : w.cell? ⟨g, i, none⟩ = some (.slice A1 (leaf_weld.at xs i).length c1) := hrw.cell (by rw [List.getElem?_map, g1]; exact congrArg some he1)
  have b2 : w.cell? ⟨g, i + 1, none⟩ = some (.slice A2 (leaf_weld.at xs (i + 1)).length c2) := hrw.cell (by rw [List.getElem?_map, g2]; exact congrArg some he2)
  generalize leaf_weld.at xs i = y1 at *
  generalize leaf_weld.at xs (i + 1) = y2 at *
  obtain ⟨n, hn2⟩ : ∃ n, hs.length = n := ⟨_, rfl⟩
  rw [hn2] at h0 ⊢
  obtain ⟨j, hj⟩ : ∃ j, j = i + 2 := ⟨_, rfl⟩
  rw [← hj]
  obtain ⟨q, hq⟩ : ∃ q, q = most / 2 := ⟨_, rfl⟩
  have hq0 : most.tdiv 2 = q := by rw [hq]; exact Int.tdiv_eq_ediv_of_nonneg (by omega)
  have w0 : IntKind.i64.wrap (most.tdiv 2) = q := by rw [hq0, IntKind.wrap_i64]; omega
  have d1 : decide ((i : Int) < 0) = false := decide_eq_false (by omega)
  have w1 : IntKind.i64.wrap ((i : Int) + 1) = (i : Int) + 1 := by rw [IntKind.wrap_i64]; omega
  have w3 : IntKind.i64.wrap ((i : Int) + 2) = (j : Int) := by rw [IntKind.wrap_i64]; omega
  have d2 : decide ((n : Int) ≤ (i : Int) + 1) = false := decide_eq_false (by omega)
  have hcat : api_Entry_76.f [y1, y2] = some (y1 ++ y2) := by
    unfold api_Entry_76.f api_Entry_76.total
    rw [if_pos (by simp; omega)]
    simp
  obtain ⟨y, hy⟩ : ∃ y, y = y1 ++ y2 := ⟨_, rfl⟩
  rw [← hy] at hcat ⊢
  have HCAT := Aside0.mk hcat
  clear hy
  have HR1 := Aside0.mk r1
  have HR2 := Aside0.mk r2
  have HN := Aside0.mk h0
  have HI := Aside0.mk (show i + 1 < xs.length from hn)
  have HXL := Aside0.mk (show xs.length < 1000000 from hb)
  have HJ := Aside0.mk hj
  have HGL := Aside0.mk hgl
  have HBG := Aside0.mk hbg
  have HBS := Aside0.mk (show base ≤ w.heap.size from Nat.le_of_lt (Nat.lt_of_le_of_lt hbg hgl))
  have hlen1 : y1.length ≤ 1000000 := by omega
  have hlen2 : y2.length ≤ 1000000 := by omega
  have HTW := Aside0.mk (show ∀ (W : World) (gx : Nat), Below w.heap.size w W → W.heap[gx]? = some (.cells #[.slice A1 y1.length c1, .slice A2 y2.length c2] 74 (0, 0)) → Kd.C (Kd.slice 85 k85) W (some ⟨gx, 0, none⟩) 2 [y1, y2] from fun W gx hB hx => leaf_weld.two (Kd.R_below HR1.out hB) (Kd.R_below HR2.out hB) hx)
  generalize hn1 : y1.length = n1 at *
  generalize hn3 : y2.length = n2 at *
  have w2 : IntKind.i64.wrap ((n1 : Int) + (n2 : Int)) = (n1 : Int) + (n2 : Int) := by rw [IntKind.wrap_i64]; omega
  have d3 : decide (q < (n1 : Int) + (n2 : Int)) = false := decide_eq_false (by omega)
  have p1 : (i : Int) < (n : Int) := by omega
  have p2 : (i : Int) + 1 < (n : Int) := by omega
  have p3 : (0 : Int) ≤ (i : Int) + 1 := by omega
  have p4 : ((i : Int) + 1).toNat = i + 1 := by omega
  have p5 : i < n := by omega
  have p6 : i + 1 < n := by omega
  clear hR hI hl hn2 hrw g1 g2 x1 x2 he1 he2 hq hq0 hbig h0 hj hcat r1 r2 hgl hbg hn hb hs1 hn1 hn3
  go_enter Try.func98, Try.ntmps98
  go_wp2_with fail
  go_quiet (fail)
  go_wp2_with fail
  have HD2 := Aside0.mk (show Below w.heap.size w (w.drewN nq) from pw_below_drewN (Below.refl _ _) nq)
  go_region_with (first
      | (go_at_call 76; refine (api_Entry_76.calls (some ⟨_, 0, none⟩) 2 [y1, y2] y _ ?hC ?hL HCAT.out).mono ?_; (case hC => exact HTW.out _ _ (by repeat (first | exact HD2.out | exact Below.refl _ _ | apply y1_ | apply y2_ | apply y3_)) (by (with_reducible repeat first | apply z1_ | apply z2_); exact heap_alloc_new _ _)); (case hL => exact Nat.le_refl _); rintro e w1 ⟨v1, rfl, hR1, hB1⟩; have HB1 := Aside0.mk (below_step (show Below w.heap.size w _ from by repeat (first | exact HD2.out | exact Below.refl _ _ | apply y1_ | apply y2_ | apply y3_)) hB1); have HRA := Aside0.mk (Kd.R_lower hR1 (Nat.le_trans HBS.out (below_size (show Below w.heap.size w _ from by repeat (first | exact HD2.out | exact Below.refl _ _ | apply y1_ | apply y2_ | apply y3_))))); obtain ⟨Aa, ca, rfl⟩ := Kd.R_slice hR1; clear hR1 hB1)
      | (go_at_call 97; refine (api_Entry_97.one (base := base) ?hN i j HJ.out HI.out HXL.out ((Aa, y.length, ca) : Hd) y ?hA _ ?hbx ?hne).mono ?_; (case hN => exact NR.below HN.out (by repeat (first | exact HB1.out | apply y1_ | apply y2_ | apply y3_))); (case hA => exact Kd.R_below HRA.out (by repeat (first | exact Below.refl _ _ | apply y1_ | apply y2_ | apply y3_))); (case hbx => (with_reducible repeat first | apply z1_ | apply z2_); exact heap_alloc_new _ _); (case hne => intro e_; have e2_ := Option.some.inj e_; have h1_ := HGL.out; have h2_ := below_size HB1.out; simp at e2_; omega); rintro e w2 ⟨v2, rfl, hN2, hB2⟩; have HN2 := Aside0.mk hN2; have HB2 := Aside0.mk ((show Below base w _ from Below.mono (show Below w.heap.size w _ from by repeat (first | exact HB1.out | apply y1_ | apply y2_ | apply y3_)) HBS.out).trans hB2); clear hN2 hB2))
  all_goals (try go_wp2_with fail)
  all_goals (go_ret2; exact ⟨_, rfl, HN2.out, HB2.out⟩)
/-- weld, whatever it is asked -/
theorem leaf_weld.does {w : World} {base : Nat} {v : Value} {xs : List (List S85)} (h : NR k85 85 74 w base v xs) (i most : Int) (hb : xs.length < 1000000) (hi : i ≤ 1000000) (hm : 2 ≤ most) (hm2 : most ≤ 9223372036854775807) (hs : ∀ x ∈ xs, x.length < 400000) :
    Calls Try.prog 98 #[v, .int .i64 i, .int .i64 most] w fun e w' => ∃ v', e = .returned (.tuple #[v', .bool (leaf_weld.can xs i most)]) ∧ NR k85 85 74 w' base v' (leaf_weld.w xs i most) ∧ Below base w w' := by
  have hno : ∀ {e : Ending} {w' : World}, leaf_weld.can xs i most = false → (e = .returned (.tuple #[v, .bool false]) ∧ ∃ q, w' = w.drewN q) → ∃ v', e = .returned (.tuple #[v', .bool (leaf_weld.can xs i most)]) ∧ NR k85 85 74 w' base v' (leaf_weld.w xs i most) ∧ Below base w w' := by
    rintro e w' hc ⟨rfl, q, rfl⟩
    refine ⟨v, by rw [hc], ?_, pw_below_drewN (Below.refl _ _) q⟩
    unfold leaf_weld.w
    rw [hc, if_neg (by decide)]
    exact h.below (pw_below_drewN (Below.refl _ _) q)
  have hat : ∀ j, (leaf_weld.at xs j).length < 400000 := fun j => by
    unfold leaf_weld.at
    rcases Nat.lt_or_ge j xs.length with hj | hj
    · rw [List.getD_eq_getElem?_getD, List.getElem?_eq_getElem hj]
      exact hs _ (List.getElem_mem hj)
    · rw [List.getD_eq_getElem?_getD, List.getElem?_eq_none hj]
      simp
  by_cases h1 : i < 0
  · exact (leaf_weld.low h i most h1).mono fun e w' he => hno (by unfold leaf_weld.can; rw [decide_eq_false (by omega)]; rfl) he
  · obtain ⟨n, rfl⟩ := Int.eq_ofNat_of_zero_le (show 0 ≤ i by omega)
    by_cases h2 : (xs.length : Int) ≤ (n : Int) + 1
    · exact (leaf_weld.high h (n : Int) most (by omega) h2 hi).mono fun e w' he => hno (by unfold leaf_weld.can; rw [decide_eq_false (show ¬ ((n : Int) + 1 < (xs.length : Int)) by omega), Bool.and_false, Bool.false_and]) he
    · have a1 := hat n
      have a2 := hat (n + 1)
      have e1 : ((n : Int) + 1).toNat = n + 1 := by omega
      by_cases h3 : (((leaf_weld.at xs n).length + (leaf_weld.at xs (n + 1)).length : Nat) : Int) ≤ most / 2
      · have hc : leaf_weld.can xs (n : Int) most = true := by
          unfold leaf_weld.can
          rw [decide_eq_true (by omega), decide_eq_true (by omega), Int.toNat_natCast, e1, decide_eq_true (by omega)]
          rfl
        refine (leaf_weld.yes h n most (by omega) hb hm hm2 (by omega) h3).mono ?_
        rintro e w' ⟨v', rfl, hN, hB⟩
        refine ⟨v', by rw [hc], ?_, hB⟩
        unfold leaf_weld.w
        rw [hc, if_pos rfl, Int.toNat_natCast, e1]
        exact hN
      · exact (leaf_weld.much h n most (by omega) (by omega) hm hm2 (by omega) (by omega)).mono fun e w' he => hno (by unfold leaf_weld.can; rw [Int.toNat_natCast, e1, decide_eq_false (show ¬ ((((leaf_weld.at xs n).length : Int) + ((leaf_weld.at xs (n + 1)).length : Int)) ≤ most / 2) by omega), Bool.and_false]) he

end Go.Proofs.Ytpfikmchimlneaa.M3
