-- written by a program of this session (wip/myprint.py), over the kit's printer and the session's own contracts
import Derived.Test.YtpfikmchimlneaaM3x0
import Derived.Test.YtpfikmchimlneaaM3x49
import Derived.Test.YtpfikmchimlneaaM3x79
import Derived.Test.YtpfikmchimlneaaM3x80
import Derived.Test.YtpfikmchimlneaaM3x81
namespace Go.Proofs.Ytpfikmchimlneaa.M3
open Go.RowKit Go.Proofs.YtpfikmchimlneaaW.PrintWords Go.Proofs.YtpfikmchimlneaaW.PrintLast Go.Proofs.YtpfikmchimlneaaW.PrintMore Go.Proofs.YtpfikmchimlneaaW.Mine
attribute [local go_sem] max2_int min2_int max_two min_two max_three min_three max_four min_four max2_str min2_str binOp_gtr_str binOp_leq_str binOp_geq_str   -- for this text's walks alone
set_option linter.unusedVariables false
set_option linter.unusedSimpArgs false

/-! ### catchmentref11_point: function 68 -/
-- over catchmentref11_both, catchmentref11_one
open Go.Proofs.YtpfikmchimlneaaW.Sl
def catchmentref11_point.hk (e : List S85) : List UInt8 := (rd_T85 e 0).f0.toList
/-- what a point makes of a row, of its block e (x: what the message makes of e) -/
def catchmentref11_point.res (P : List (List S85)) (e : List S85) (C : List (List S85)) (x : List S85) (most : Int) : List (List S85) :=
  if x.length = 0 then P ++ C else if most < (x.length : Int) then P ++ [x.take (x.length / 2), x.drop (x.length / 2)] ++ C else if e.length ≤ x.length then P ++ x :: C else
  if leaf_weld.can (P ++ x :: C) (P.length : Int) most = true then leaf_weld.w (P ++ x :: C) (P.length : Int) most else if leaf_weld.can (P ++ x :: C) ((P.length : Int) - 1) most = true then leaf_weld.w (P ++ x :: C) ((P.length : Int) - 1) most else P ++ x :: C
theorem catchmentref11_point.chg {P : List (List S85)} {e : List S85} {C : List (List S85)} (more : List (List S85)) (hb : (P ++ e :: C).length < 1000000) (hm : more.length ≤ 10) : catchmentref11_change.f (P ++ e :: C) (P.length : Int) 1 more = some (P ++ more ++ C) := by
  rw [List.length_append, List.length_cons] at hb
  have hw : wrap64 ((P.length : Int) + 1) = ((P.length + 1 : Nat) : Int) := by unfold wrap64; omega
  have ht : (P ++ e :: C).take P.length = P := List.take_left' rfl
  have hd : (P ++ e :: C).drop (P.length + 1) = C := by
    rw [show P ++ e :: C = (P ++ [e]) ++ C by simp]
    exact List.drop_left' (by simp)
  unfold catchmentref11_change.f
  rw [hw, Int.toNat_natCast, Int.toNat_natCast, ht, hd, Option.bind_some, if_pos (by omega), if_pos (by simp; omega), Option.bind_some, if_pos (by simp; omega), Option.bind_some, if_pos (by simp; omega), Option.bind_some, if_pos (by omega), if_pos (by simp; omega), Option.bind_some, if_pos (by simp; omega), List.nil_append]
theorem catchmentref11_point.two {W : World} {A1 A2 : Option Addr} {c1 c2 gx n1 n2 : Nat} {y1 y2 : List S85} (e1 : n1 = y1.length) (e2 : n2 = y2.length) (h1 : Kd.C k85 W A1 y1.length y1) (l1 : y1.length ≤ c1) (h2 : Kd.C k85 W A2 y2.length y2) (l2 : y2.length ≤ c2) (hx : W.heap[gx]? = some (.cells #[.slice A1 n1 c1, .slice A2 n2 c2] 74 (0, 0))) : catchmentref11_both.VV W (.slice (some ⟨gx, 0, none⟩) ([y1, y2] : List (List S85)).length 2) [y1, y2] := by
  subst e1 e2
  refine catchmentref11_both.ofC ⟨rfl, by simp, fun _ => ⟨_, rfl, fun j p hj => ?_⟩⟩ (Nat.le_refl _)
  have hc : ∀ q u, (#[Value.slice A1 y1.length c1, Value.slice A2 y2.length c2] : Array Value)[q]? = some u → W.cell? ((⟨gx, 0, none⟩ : Addr).add q) = some u := fun q u hu => by
    rw [Addr.add_lit, Nat.zero_add]
    simp only [World.cell?, hx]
    exact hu
  match j, hj with
  | 0, hj =>
    obtain rfl : y1 = p := by simpa using hj
    refine ⟨[.slice A1 y1.length c1], rfl, ⟨A1, c1, rfl, l1, h1⟩, fun q u hu => ?_⟩
    match q, hu with
    | 0, hu => exact hc 0 u (by simpa using hu)
  | 1, hj =>
    obtain rfl : y2 = p := by simpa using hj
    refine ⟨[.slice A2 y2.length c2], rfl, ⟨A2, c2, rfl, l2, h2⟩, fun q u hu => ?_⟩
    match q, hu with
    | 0, hu => exact hc 1 u (by simpa using hu)
theorem catchmentref11_point.hn {w : World} {o : Obj} {g : Nat} (h : g = w.heap.size) : (w.alloc o).heap[g]? = some o := h ▸ heap_alloc_new w o
theorem catchmentref11_point.far {W w4 : World} {g : Nat} {row : Option Nat} {cs : Array Value} (hg : W.grownBy w4 row) (hne : some g ≠ row) (h : W.heap[g]? = some (.cells cs 85 (0, 0))) : w4.heap[g]? = some (.cells cs 85 (0, 0)) := blk_grown h hg hne
/-- an empty slice that was just made -/
theorem catchmentref11_point.emp {W : World} {base g : Nat} {n : Nat} (hn : n = 0) (h : W.heap[g]? = some (.cells #[] 85 (0, 0))) (hb : base ≤ g) : Kd.R k85 85 W base (fun _ => True) (.slice (some ⟨g, 0, none⟩) n 0) ([] : List S85) := by
  subst hn
  exact ⟨fun _ _ => trivial, [], ⟨rfl, .inr ⟨g, 0, _, rfl, hb, h, Nat.le_refl _, Nat.zero_le _, rfl, rfl⟩⟩, Reps.none _ _⟩
set_option maxHeartbeats 4000000 in
set_option maxRecDepth 100000 in
theorem catchmentref11_point.nil {w : World} {A : Option Addr} {c : Nat} (m : S69) (most : Int) (k : Nat) (x : List S85) (r : List (List S85)) (hr : (if x.length = 0 then [] else [x]) = r) (h1 : catchmentref11_one.f k [] m.f0 m.f1 m.f2 m.f3 m.f4 m.f5 = some x) :
    Calls Try.prog 68 #[.slice A 0 c, .agg #[.int .u8 m.f0, .int .i64 m.f1, .string m.f2, .string m.f3, .string m.f4, .int .u64 m.f5], .int .i64 most] w fun e w' => ∃ v', e = .returned v' ∧ catchmentref11_both.VV w' v' r ∧ Below w.heap.size w w' := by
  have HRR := Aside0.mk hr
  clear hr
  have H1 := Aside0.mk h1
  have HB0 := Aside0.mk (show Below w.heap.size w (w.alloc (.cells #[.int .u8 m.f0, .int .i64 m.f1, .string m.f2, .string m.f3, .string m.f4, .int .u64 m.f5] 69)) from (Below.refl _ _).alloc (Nat.le_refl _) _)
  clear h1
  by_cases h0 : x.length = 0
  · have b0 : ((x.length : Int) == 0) = true := beq_iff_eq.mpr (by omega)
    have H0 := Aside0.mk h0
    clear h0
    go_enter Try.func68, Try.ntmps68
    go_wp2_with (go_at_call 69; refine (catchmentref11_one.calls k none 0 [] m.f0 m.f1 m.f2 m.f3 m.f4 m.f5 x _ (Kd.C_nil _ _) (Nat.le_refl _) H1.out).mono ?_; rintro e w5 ⟨v5, rfl, hR5, hB5⟩; obtain ⟨A5, c5, rfl⟩ := Kd.R_slice hR5; have HBK := Aside0.mk (HB0.out.trans (hB5.mono HB0.out.size)); clear hR5 hB5)
    go_ret
    refine ⟨_, rfl, ?_, HBK.out⟩
    have hvv : catchmentref11_both.VV w5 (.slice A 0 c) [] := ⟨A, c, rfl, Nat.zero_le _, Kd.F_mono (Kd.C_F (Kd.heap_slice 85 catchmentref11_both.kh) ⟨rfl, by simp, fun h => absurd h (by simp)⟩) (fun _ _ => trivial)⟩
    rw [← HRR.out, if_pos H0.out]
    exact hvv
  · have b0 : ((x.length : Int) == 0) = false := beq_eq_false_iff_ne.mpr (by omega)
    have H0 := Aside0.mk h0
    clear h0
    go_enter Try.func68, Try.ntmps68
    go_wp2_with (go_at_call 69; refine (catchmentref11_one.calls k none 0 [] m.f0 m.f1 m.f2 m.f3 m.f4 m.f5 x _ (Kd.C_nil _ _) (Nat.le_refl _) H1.out).mono ?_; rintro e w5 ⟨v5, rfl, hR5, hB5⟩; obtain ⟨A5, c5, rfl⟩ := Kd.R_slice hR5; have HBK := Aside0.mk (HB0.out.trans (hB5.mono HB0.out.size)); have HR5 := Aside0.mk hR5; clear hR5 hB5)
    go_ret
    refine ⟨_, rfl, ?_, y1_ HBK.out _⟩
    rw [← HRR.out, if_neg H0.out]
    exact catchmentref11_both.one rfl (Kd.C_alloc (Kd.R_reads' HR5.out).2.2 _) (Kd.R_reads' HR5.out).2.1 (heap_alloc_new _ _)
set_option maxHeartbeats 16000000 in
set_option maxRecDepth 100000 in
theorem catchmentref11_point.calls0 {w : World} {A : Option Addr} {c : Nat} {l P : List (List S85)} {e : List S85} {C : List (List S85)} (hl : l = P ++ e :: C) (hV : catchmentref11_both.VV w (.slice A l.length c) l) (hlen : l.length < 1000000) (hne : ∀ y ∈ l, y ≠ []) (hsz : ∀ y ∈ l, y.length < 300000) (m : S69) (he : P ≠ [] → Op.bytesLess m.f2.toList (catchmentref11_point.hk e) = false) (hC : ∀ y ∈ C, Op.bytesLess m.f2.toList (catchmentref11_point.hk y) = true) (most : Int) (hm : 2 ≤ most) (hm2 : most ≤ 9223372036854775807) (k : Nat) (x : List S85) (hx : x.length < 300000) (h1 : catchmentref11_one.f k e m.f0 m.f1 m.f2 m.f3 m.f4 m.f5 = some x) :
    Calls Try.prog 68 #[.slice A l.length c, .agg #[.int .u8 m.f0, .int .i64 m.f1, .string m.f2, .string m.f3, .string m.f4, .int .u64 m.f5], .int .i64 most] w fun e' w' => ∃ v', e' = .returned v' ∧ catchmentref11_both.VV w' v' (catchmentref11_point.res P e C x most) ∧ Below w.heap.size w w' := by
  obtain ⟨r, hr⟩ : ∃ r, catchmentref11_point.res P e C x most = r := ⟨_, rfl⟩
  rw [hr]
  have HRES := Aside0.mk hr
  clear hr
  have hPe : rd_L2 l (P.length : Int) = e := by
    rw [hl]
    unfold rd_L2
    rw [Int.toNat_natCast, List.getD_eq_getElem?_getD, List.getElem?_append_right (Nat.le_refl _), Nat.sub_self]
    rfl
  have hll : l.length = P.length + 1 + C.length := by rw [hl]; simp; omega
  have hCV := (Kd.V_reads' hV).2.2
  obtain ⟨ad, A1, c1, rfl, eb, ec, er⟩ := at_L2 hCV (P.length : Int) (by omega) (by omega)
  rw [hPe] at eb ec er
  have HCV := Aside0.mk hCV
  have HE := Aside0.mk er
  have HEC := Aside0.mk ec
  have HEB := Aside0.mk (show w.cell? (ad.add P.length) = some (.slice A1 e.length c1) from eb)
  have HEK := Aside0.mk (show (ad.add P.length).block < w.heap.size from World.block_lt_of_cell? w _ eb)
  have H1 := Aside0.mk h1
  have HV := Aside0.mk hV
  have HLE := Aside0.mk hlen
  have HX := Aside0.mk hx
  have HHE := Aside0.mk he
  have HHC := Aside0.mk hC
  have HNE := Aside0.mk hne
  have HSZ := Aside0.mk hsz
  have HL := Aside0.mk hl
  have HLL := Aside0.mk hll
  have HMO := Aside0.mk (And.intro hm hm2)
  have HCH : ∀ more : List (List S85), more.length ≤ 10 → catchmentref11_change.f l (P.length : Int) 1 more = some (P ++ more ++ C) := fun more hmo => by rw [hl]; exact catchmentref11_point.chg more (by rw [← hl]; exact hlen) hmo
  obtain ⟨n, hn⟩ : ∃ n, l.length = n := ⟨_, rfl⟩
  have HCALL := Aside0.mk (show ∀ (W : World) (A3 : Option Addr) (c3 : Nat) (more : List (List S85)), more.length ≤ 10 → Below w.heap.size w W → catchmentref11_both.VV W (.slice A3 more.length c3) more → Calls Try.prog 93 #[.slice (some ad) n c, .int .i64 (P.length : Int), .int .i64 1, .slice A3 more.length c3] W (fun e w' => ∃ v', e = .returned v' ∧ catchmentref11_both.VV w' v' (P ++ more ++ C) ∧ Below W.heap.size W w') from fun W A3 c3 more hmo hB hM => by
    have := catchmentref11_change.calls (fun _ => True) (some ad) c l (P.length : Int) 1 (fun _ => True) A3 c3 more _ W (Kd.V_below hV hB) hM (HCH more hmo)
    rw [hn] at this
    exact this.mono fun e w' => fun ⟨v, h1, h2, h3⟩ => ⟨v, h1, Kd.V_mono (Kd.N_V h2) (fun _ _ => trivial), h3⟩)
  have HN := Aside0.mk hn
  have hX0 := heap_alloc_new w (.cells #[.int .u8 m.f0, .int .i64 m.f1, .string m.f2, .string m.f3, .string m.f4, .int .u64 m.f5] 69)
  have HX0 := Aside0.mk hX0
  have HB0 := Aside0.mk (show Below w.heap.size w (w.alloc (.cells #[.int .u8 m.f0, .int .i64 m.f1, .string m.f2, .string m.f3, .string m.f4, .int .u64 m.f5] 69)) from (Below.refl _ _).alloc (Nat.le_refl _) _)
  have hn9 : n ≤ 9223372036854775807 := by omega
  have bz : ((n : Int) == 0) = false := beq_eq_false_iff_ne.mpr (by omega)
  clear hCV er eb ec h1 hV hx he hC hne hsz hl hm hm2 HCH hX0 hPe hlen
  rw [hn] at hll ⊢
  have HPN := Aside0.mk (show P.length < n by omega)
  clear hn hll
  go_enter Try.func68, Try.ntmps68
  go_wp2_with fail
  go_loopw [8, 9] (fun va vi wr => ∃ (a : Int) (i : Nat), va = .int .i64 a ∧ vi = .int .i64 (i : Int) ∧ i ≤ n ∧ Aside0 ((P.length < i → a = (P.length : Int)) ∧ (P = [] → a = (P.length : Int))) ∧ Aside0 (wr.heap[w.heap.size]? = some (.cells #[.int .u8 m.f0, .int .i64 m.f1, .string m.f2, .string m.f3, .string m.f4, .int .u64 m.f5] 69 (0, 0))) ∧ Aside0 (Below w.heap.size w wr)) (fun _ vi _ => n - (intOf vi).toNat)
  case atStart => exact ⟨0, 0, rfl, rfl, Nat.zero_le _, ⟨fun h => absurd h (by omega), fun h => by rw [h]; rfl⟩, HX0, HB0⟩
  case round =>
    obtain ⟨a, i, rfl, rfl, hi, HJ, HXr, HBr⟩ := hrel
    clear HX0 HB0
    by_cases hlt : i < n
    · obtain ⟨ad2, A2, c2, e2, b2, l2, r2⟩ := at_L2 HCV.out (i : Int) (by omega) (by rw [HN.out]; omega)
      cases e2
      have hmem : rd_L2 l (i : Int) ∈ l := by
        have : i < l.length := by rw [HN.out]; exact hlt
        unfold rd_L2
        rw [Int.toNat_natCast, List.getD_eq_getElem?_getD, List.getElem?_eq_getElem this]
        exact List.getElem_mem this
      have hy0 : 0 < (rd_L2 l (i : Int)).length := List.length_pos_iff.2 (HNE.out _ hmem)
      have hgt : ∀ b, Op.bytesLess m.f2.toList (catchmentref11_point.hk (rd_L2 l (i : Int))) = b → (b = false → ((P.length < i + 1 → (i : Int) = (P.length : Int)) ∧ (P = [] → (i : Int) = (P.length : Int)))) ∧ (b = true → ((P.length < i + 1 → a = (P.length : Int)) ∧ (P = [] → a = (P.length : Int)))) := by
        intro b hb
        have hgetC : P.length < i → rd_L2 l (i : Int) ∈ C := fun hp => by
          have hi2 : i < (P ++ e :: C).length := by rw [← HL.out, HN.out]; exact hlt
          unfold rd_L2
          rw [HL.out, Int.toNat_natCast, List.getD_eq_getElem?_getD, List.getElem?_append_right (by omega)]
          obtain ⟨j, hj⟩ : ∃ j, i - P.length = j + 1 := ⟨i - P.length - 1, by omega⟩
          rw [List.length_append, List.length_cons] at hi2
          rw [hj, List.getElem?_cons_succ, List.getElem?_eq_getElem (by omega)]
          exact List.getElem_mem _
        have hgetP : P.length = i → rd_L2 l (i : Int) = e := fun hp => by
          unfold rd_L2
          rw [HL.out, Int.toNat_natCast, List.getD_eq_getElem?_getD, List.getElem?_append_right (by omega), hp, Nat.sub_self]
          rfl
        refine ⟨fun h0 => ?_, fun h0 => ?_⟩
        · subst h0
          have hle : ¬ P.length < i := fun hp => by
            have := HHC.out _ (hgetC hp)
            rw [hb] at this
            cases this
          exact ⟨fun h => by omega, fun h => by rw [h] at hle ⊢; simp at hle ⊢; omega⟩
        · subst h0
          refine ⟨fun h => ?_, HJ.out.2⟩
          by_cases hp : P.length < i
          · exact HJ.out.1 hp
          · have hpi : P.length = i := by omega
            rw [hgetP hpi] at hb
            by_cases hP : P = []
            · exact HJ.out.2 hP
            · have := HHE.out hP
              rw [hb] at this
              cases this
      obtain ⟨adk, ek, hk0, _⟩ := at_T85 r2 0 (by omega) (by omega)
      subst ek
      rw [show ((0 : Int)).toNat = 0 from rfl, show 0 * 2 = 0 from rfl, Addr.add_zero'] at hk0
      have f1 : wr.cell? (ad.add (i : Int).toNat) = some (.slice (some adk) (rd_L2 l (i : Int)).length c2) := (HBr.out.cell (World.block_lt_of_cell? w _ b2)).trans b2
      have f2 : wr.cell? adk = some (.string (rd_T85 (rd_L2 l (i : Int)) 0).f0) := (HBr.out.cell (World.block_lt_of_cell? w _ hk0)).trans hk0
      rw [Int.toNat_natCast] at f1
      have f3 : wr.cell? ⟨w.heap.size, 2, none⟩ = some (.string m.f2) := (blk_cell HXr.out 2).trans rfl
      obtain ⟨b, hb⟩ : ∃ b, Op.bytesLess m.f2.toList (rd_T85 (rd_L2 l (i : Int)) 0).f0.toList = b := ⟨_, rfl⟩
      have HG := Aside0.mk (hgt b hb)
      have HLT := Aside0.mk hlt
      generalize (rd_T85 (rd_L2 l (i : Int)) 0).f0 = ky at hb f2
      generalize (rd_L2 l (i : Int)).length = ln at f1 hy0
      clear hgt hmem b2 l2 r2 hk0
      have p1 : (i : Int) < (n : Int) := by omega
      have p2 : (0 : Int) ≤ (i : Int) := by omega
      have p3 : (0 : Int) < (ln : Int) := by omega
      clear HCV HE HEB HHE HHC HV HNE HSZ HL
      cases b with
      | true =>
        have HGG := Aside0.mk (HG.out.2 rfl)
        clear HG
        go_wp2_with fail
        go_quiet (fail)
        go_wp2_with fail
        go_roundw
        case rel => exact ⟨a, i + 1, rfl, by go_num, (by have := HLT.out; omega), HGG, ⟨z1_ HXr.out _⟩, ⟨pw_below_drewN HBr.out _⟩⟩
        case measure => simp [intOf]; have := HLT.out; omega
      | false =>
        have HGG := Aside0.mk (HG.out.1 rfl)
        clear HG
        go_wp2_with fail
        go_quiet (fail)
        go_wp2_with fail
        go_roundw
        case rel => exact ⟨(i : Int), i + 1, rfl, by go_num, (by have := HLT.out; omega), HGG, ⟨z1_ HXr.out _⟩, ⟨pw_below_drewN HBr.out _⟩⟩
        case measure => simp [intOf]; have := HLT.out; omega
    · obtain rfl : n = i := by omega
      obtain rfl : a = (P.length : Int) := HJ.out.1 HPN.out
      have hXd := z2_ HXr.out
      have eb1 : wr.cell? (ad.add P.length) = some (.slice A1 e.length c1) := (HBr.out.cell HEK.out).trans HEB.out
      have p1 : (P.length : Int) < (n : Int) := by have := HPN.out; omega
      have p2 : (0 : Int) ≤ (P.length : Int) := by omega
      have d0wr : wr.cell? ⟨w.heap.size, 0, none⟩ = some (.int .u8 m.f0) := (blk_cell HXr.out 0).trans rfl; have d1wr : wr.cell? ⟨w.heap.size, 1, none⟩ = some (.int .i64 m.f1) := (blk_cell HXr.out 1).trans rfl; have d2wr : wr.cell? ⟨w.heap.size, 2, none⟩ = some (.string m.f2) := (blk_cell HXr.out 2).trans rfl; have d3wr : wr.cell? ⟨w.heap.size, 3, none⟩ = some (.string m.f3) := (blk_cell HXr.out 3).trans rfl; have d4wr : wr.cell? ⟨w.heap.size, 4, none⟩ = some (.string m.f4) := (blk_cell HXr.out 4).trans rfl; have d5wr : wr.cell? ⟨w.heap.size, 5, none⟩ = some (.int .u64 m.f5) := (blk_cell HXr.out 5).trans rfl
      go_wp2_with fail
      go_region_held3 (fun w' => w'.cell? ⟨w.heap.size, 0, none⟩ = some (.int .u8 m.f0) ∧ w'.cell? ⟨w.heap.size, 1, none⟩ = some (.int .i64 m.f1) ∧ w'.cell? ⟨w.heap.size, 2, none⟩ = some (.string m.f2) ∧ w'.cell? ⟨w.heap.size, 3, none⟩ = some (.string m.f3) ∧ w'.cell? ⟨w.heap.size, 4, none⟩ = some (.string m.f4) ∧ w'.cell? ⟨w.heap.size, 5, none⟩ = some (.int .u64 m.f5) ∧ w'.cell? (ad.add P.length) = some (.slice A1 e.length c1))
        ((first | go_keep | exact ⟨by assumption, by assumption, by assumption, by assumption, by assumption, by assumption, by assumption⟩))
        ((first
          | (go_at_call 69; refine (catchmentref11_one.calls k A1 c1 e m.f0 m.f1 m.f2 m.f3 m.f4 m.f5 x _ (Kd.C_below HE.out (HBr.out.drew)) HEC.out H1.out).mono ?_; rintro e5 w5 ⟨v5, rfl, hR5, hB5⟩; obtain ⟨A5, c5, rfl⟩ := Kd.R_slice hR5; have hBK := (HBr.out.drew).trans (hB5.mono (show w.heap.size ≤ _ from HBr.out.drew.size)); have hXk := (hB5.block _ (blk_lt hXd)).trans hXd; have d0w5 : w5.cell? ⟨w.heap.size, 0, none⟩ = some (.int .u8 m.f0) := (blk_cell hXk 0).trans rfl; have d1w5 : w5.cell? ⟨w.heap.size, 1, none⟩ = some (.int .i64 m.f1) := (blk_cell hXk 1).trans rfl; have d2w5 : w5.cell? ⟨w.heap.size, 2, none⟩ = some (.string m.f2) := (blk_cell hXk 2).trans rfl; have d3w5 : w5.cell? ⟨w.heap.size, 3, none⟩ = some (.string m.f3) := (blk_cell hXk 3).trans rfl; have d4w5 : w5.cell? ⟨w.heap.size, 4, none⟩ = some (.string m.f4) := (blk_cell hXk 4).trans rfl; have d5w5 : w5.cell? ⟨w.heap.size, 5, none⟩ = some (.int .u64 m.f5) := (blk_cell hXk 5).trans rfl; have eb5 : w5.cell? (ad.add P.length) = some (.slice A1 e.length c1) := (hBK.cell HEK.out).trans HEB.out)))
      have HR5 := Aside0.mk hR5
      have HBK := Aside0.mk hBK
      clear hR5 hB5 hBK hXk d0w5 d1w5 d2w5 d3w5 d4w5 d5w5 d0wr d1wr d2wr d3wr d4wr d5wr hXd eb1 HCV HHE HHC HNE HE
      by_cases z0 : x.length = 0
      · have b0 : ((x.length : Int) == 0) = true := beq_iff_eq.mpr (by omega)
        have Z0 := Aside0.mk z0
        clear z0
        go_wp2_with (go_at_call 93; refine (HCALL.out _ none 0 [] (by simp) HBK.out (Kd.V_nil _ _ _ _ _)).mono ?_; rintro e7 w7 ⟨v7, rfl, hV7, hB7⟩; have HV7 := Aside0.mk hV7; have HB7 := Aside0.mk (below_step HBK.out hB7); clear hV7 hB7)
        go_ret
        refine ⟨_, rfl, ?_, HB7.out⟩
        rw [← HRES.out]
        unfold catchmentref11_point.res
        rw [if_pos Z0.out]
        have := HV7.out
        rw [List.append_nil] at this
        exact this
      have b0 : ((x.length : Int) == 0) = false := beq_eq_false_iff_ne.mpr (by omega)
      by_cases z2 : most < (x.length : Int)
      · have b2 : decide (most < (x.length : Int)) = true := decide_eq_true z2
        obtain ⟨h, hh⟩ : ∃ h, x.length / 2 = h := ⟨_, rfl⟩
        have hle : h ≤ x.length := by omega
        have bq : IntKind.i64.wrap ((x.length : Int).tdiv 2) = (h : Int) := by
          rw [show (x.length : Int).tdiv 2 = ((x.length / 2 : Nat) : Int) from rfl, hh, IntKind.wrap_i64]
          have := HX.out
          omega
        have bq2 : wrap64 ((x.length : Int) / 2) = (h : Int) := by
          rw [show (x.length : Int) / 2 = ((x.length / 2 : Nat) : Int) from rfl, hh]
          have := HX.out
          unfold wrap64
          omega
        obtain ⟨i0, hi0, _, hsz0, _⟩ := info_parts info85
        have hroom : x.length ≤ c5 := (Kd.R_reads' HR5.out).2.1
        have hC5 := (Kd.R_reads' HR5.out).2.2
        have hct := cut_to (P := Try.prog) 74 85 .i64 Try.underlying74 hi0 A5 x.length c5 (h : Int) (by omega) (by omega) hroom
        have hcf := cut_from (P := Try.prog) 74 85 .i64 Try.underlying74 hi0 2 hsz0 A5 x.length c5 (h : Int) (by omega) (by omega)
        rw [Int.toNat_natCast] at hct hcf
        have hy1 : (x.take h).length = h := by rw [List.length_take]; omega
        have hy2 : (x.drop h).length = x.length - h := List.length_drop
        have hr1 := Kd.C_take (m := h) hC5 hle
        have hr2 := Kd.C_drop (m := h) (c := c5) hC5 hle hroom
        obtain ⟨A6, hA6⟩ : ∃ A6, A6 = (if c5 = h then A5 else (A5 : Option Addr).map (·.add (h * 2))) := ⟨_, rfl⟩
        obtain ⟨c6, hc6⟩ : ∃ c6, c6 = c5 - h := ⟨_, rfl⟩
        have hr2' : Kd.C k85 w5 A6 (x.drop h).length (x.drop h) := by rw [hA6]; exact hr2
        obtain ⟨y1, hy1e⟩ : ∃ y, y = x.take h := ⟨_, rfl⟩
        obtain ⟨y2, hy2e⟩ : ∃ y, y = x.drop h := ⟨_, rfl⟩
        rw [← hA6, ← hc6, ← hy2] at hcf
        rw [← hy1e] at hr1
        have hr1' : Kd.C k85 w5 A5 h y1 := by have := hr1; rw [show y1.length = h by rw [hy1e, hy1]] at this; exact this
        rw [← hy2e] at hcf hr2'
        have HR1 := Aside0.mk (show ∀ W : World, Below w5.heap.size w5 W → ReadsRow (k85.K w5) k85.sz W A5 h y1 from fun W h => Kd.C_below hr1' h)
        have HR2 := Aside0.mk (show ∀ W : World, Below w5.heap.size w5 W → ReadsRow (k85.K w5) k85.sz W A6 y2.length y2 from fun W h => Kd.C_below hr2' h)
        have HLE1 := Aside0.mk (show h ≤ 300000 by have := HX.out; omega)
        have HLE2 := Aside0.mk (show y2.length ≤ 300000 by have := HX.out; rw [hy2e, hy2]; omega)
        have HY1 := Aside0.mk hy1e
        have HY2 := Aside0.mk hy2e
        have HH := Aside0.mk hh
        have Z0 := Aside0.mk z0
        have Z2 := Aside0.mk z2
        clear hy1 hy2 hr1 hr1' hr2 hr2' hA6 hc6 hy1e hy2e hh hC5 hi0 hsz0 hle hroom z0 z2
        go_wp2_with fail
        go_region_held3 (fun _ => True)
          (trivial)
          ((first
            | (refine Kd.R_append_rows_step k85 (Rr := k85.K w5) (w0 := w5) w5.heap.size rfl (.tmp 64) (.tmp 67) 74 85 (.agg #[.string ⟨#[]⟩, .string ⟨#[]⟩]) 32 rfl Try.underlying74 info85 rfl (by decide) (by omega) (.slice (some ⟨_, 0, none⟩) 0 0) [] y1 A5 h c5 (fun _ => True) (fun _ => False) rfl rfl (catchmentref11_point.emp rfl ?hp ?hb) (HR1.out _ ?q2) (fun _ _ h => h) (fun _ h => h.elim) (fun _ _ => trivial) ?q3 (below_size ?q4) ?q5 ?_; (case hp => first | (refine catchmentref11_point.hn ?_; simp; done) | (refine z3_ (catchmentref11_point.hn ?_) _; simp; done)); (case hb => first | exact Nat.le_refl _ | exact Nat.le_succ _ | (simp; done) | (simp; omega)); (case q2 => repeat (first | (with_reducible first | exact Below.refl _ _ | apply y1_ | apply y2_ | apply y3_) | exact Below.refl _ _)); (case q3 => repeat (first | (with_reducible first | exact Below.refl _ _ | apply y1_ | apply y2_ | apply y3_) | exact Below.refl _ _)); (case q4 => repeat (first | (with_reducible first | exact Below.refl _ _ | apply y1_ | apply y2_ | apply y3_) | exact Below.refl _ _)); (case q5 => have := HLE1.out; simp; omega); intro v4 w4 hR4 hB4 hg4 hat4; have hlt4 := Kd.R_lt hR4)
            | (refine Kd.R_append_rows_step k85 (Rr := k85.K w5) (w0 := w5) w5.heap.size rfl (.tmp 69) (.tmp 72) 74 85 (.agg #[.string ⟨#[]⟩, .string ⟨#[]⟩]) 32 rfl Try.underlying74 info85 rfl (by decide) (by omega) (.slice (some ⟨_, 0, none⟩) 0 0) [] y2 A6 y2.length c6 (fun _ => True) (fun _ => False) rfl rfl (catchmentref11_point.emp rfl ?hp ?hb) (HR2.out _ ?q2) (fun _ _ h => h) (fun _ h => h.elim) (fun _ _ => trivial) ?q3 (below_size ?q4) ?q5 ?_; (case hp => first | (refine catchmentref11_point.hn ?_; simp; done) | (refine catchmentref11_point.far hg4 ?hn2 ?hp2; (case hn2 => intro e_; simp [Value.ownBlock] at e_; done); (case hp2 => first | (refine catchmentref11_point.hn ?_; simp; done) | (refine z3_ (catchmentref11_point.hn ?_) _; simp; done)))); (case hb => first | exact hB4.size | (simp; done) | (simp; omega)); (case q2 => repeat (first | (with_reducible first | exact hB4 | apply y1_ | apply y2_ | apply y3_) | exact hB4)); (case q3 => repeat (first | (with_reducible first | exact hB4 | apply y1_ | apply y2_ | apply y3_) | exact hB4)); (case q4 => repeat (first | (with_reducible first | exact hB4 | apply y1_ | apply y2_ | apply y3_) | exact hB4)); (case q5 => have := HLE2.out; simp; omega); intro v8 w8 hR8 hB8 hg8 _; have hR4' := Kd.R_grown1 (by first | exact Kd.R_alloc hR4 _ | exact hR4) rfl hg8 ?ne; (case ne => intro e_; have h1_ := hlt4 _ e_.symm; rcases hat4 with h_ | ⟨b_, h_, hb_⟩ <;> rw [h_] at e_ <;> simp [Value.ownBlock] at e_ h1_ <;> first | omega | (simp at hb_; omega)); obtain ⟨A4, c4, rfl⟩ := Kd.R_slice hR4'; obtain ⟨A8, c8, rfl⟩ := Kd.R_slice hR8)
            | (go_at_call 93; refine (HCALL.out _ (some ⟨w8.heap.size, 0, none⟩) 2 [y1, y2] ?h0 ?h1 ?h2).mono ?_; (case h0 => simp); (case h1 => exact (HBK.out.trans (hB8.mono HBK.out.size)).alloc (Nat.le_trans HBK.out.size hB8.size) _); (case h2 => refine catchmentref11_point.two (W := w8.alloc _) ?e1 ?e2 (Kd.C_alloc (Kd.R_reads' hR4').2.2 _) (Kd.R_reads' hR4').2.1 (Kd.C_alloc (Kd.R_reads' hR8).2.2 _) (Kd.R_reads' hR8).2.1 (heap_alloc_new w8 _) <;> simp); rintro e7 w7 ⟨v7, rfl, hV7, hB7⟩; have HV7 := Aside0.mk hV7; have HB7 := Aside0.mk (below_step ((HBK.out.trans (hB8.mono HBK.out.size)).alloc (Nat.le_trans HBK.out.size hB8.size) _) hB7))))
        all_goals (
          go_wp2
          go_ret
          refine ⟨_, rfl, ?_, HB7.out⟩
          rw [← HRES.out]
          unfold catchmentref11_point.res
          rw [if_neg Z0.out, if_pos Z2.out, HH.out, ← HY1.out, ← HY2.out]
          exact HV7.out)
      have b2 : decide (most < (x.length : Int)) = false := decide_eq_false z2
      obtain ⟨L, hL⟩ : ∃ L, P ++ [x] ++ C = L := ⟨_, rfl⟩
      have HLQ := Aside0.mk hL
      have hll1 : L.length < 1000000 := by
        have h1_ := HLE.out
        have h2_ := HLL.out
        rw [← hL]
        simp only [List.length_append, List.length_cons, List.length_nil]
        omega
      have HLL1 := Aside0.mk hll1
      have hls : ∀ y ∈ L, y.length < 400000 := by
        intro y hy
        rw [← hL] at hy
        simp only [List.mem_append, List.mem_cons, List.not_mem_nil, or_false] at hy
        rcases hy with (hy | rfl) | hy
        · have hm_ : y ∈ l := by
            rw [HL.out]
            simp [hy]
          have := HSZ.out y hm_
          omega
        · have := HX.out
          omega
        · have hm_ : y ∈ l := by
            rw [HL.out]
            simp [hy]
          have := HSZ.out y hm_
          omega
      have HLS := Aside0.mk hls
      have hvx : catchmentref11_both.VV (w5.alloc (.cells #[.slice A5 x.length c5] 74)) (.slice (some ⟨w5.heap.size, 0, none⟩) ([x] : List (List S85)).length 1) [x] := catchmentref11_both.one rfl (Kd.C_alloc (Kd.R_reads' HR5.out).2.2 _) (Kd.R_reads' HR5.out).2.1 (heap_alloc_new w5 _)
      have hbx := y1_ HBK.out (.cells #[.slice A5 x.length c5] 74)
      have hhc1 : Calls Try.prog 93 #[.slice (some ad) n c, .int .i64 (P.length : Int), .int .i64 1, .slice (some ⟨w5.heap.size, 0, none⟩) 1 1] (w5.alloc (.cells #[.slice A5 x.length c5] 74)) (fun e' w' => ∃ A7 c7, e' = .returned (.slice A7 L.length c7) ∧ catchmentref11_both.VV w' (.slice A7 L.length c7) L ∧ Below w.heap.size w w' ∧ w'.cell? (ad.add P.length) = some (.slice A1 e.length c1)) := by
        have := HCALL.out _ (some ⟨w5.heap.size, 0, none⟩) 1 [x] (by simp) hbx hvx
        rw [hL] at this
        refine Calls.mono this ?_
        rintro e7 w7 ⟨v7, rfl, hV7, hB7⟩
        obtain ⟨A7, c7, rfl⟩ := Kd.V_slice hV7
        have hB8 := below_step hbx hB7
        exact ⟨A7, c7, rfl, hV7, hB8, (hB8.cell HEK.out).trans HEB.out⟩
      have HC1 := Aside0.mk hhc1
      have Z0 := Aside0.mk z0
      have Z2 := Aside0.mk z2
      clear hL z0 z2 HCALL hll1 hls hhc1 hvx hbx
      by_cases z3 : e.length ≤ x.length
      · have b3 : decide ((e.length : Int) ≤ (x.length : Int)) = true := decide_eq_true (by omega)
        have b3n : decide (e.length ≤ x.length) = true := decide_eq_true z3
        have b3p : (e.length ≤ x.length) = True := eq_true z3
        have Z3 := Aside0.mk z3
        clear z3
        go_wp2_with (go_at_call 93; refine HC1.out.mono ?_; rintro e7 w7 ⟨A7, c7, rfl, hV7, hB7, eb7⟩; have HV7 := Aside0.mk hV7; have HB7 := Aside0.mk hB7; clear hV7 hB7)
        go_ret
        refine ⟨_, rfl, ?_, HB7.out⟩
        rw [← HRES.out]
        unfold catchmentref11_point.res
        rw [if_neg Z0.out, if_neg (show ¬ most < (x.length : Int) by have := Z2.out; omega), if_pos Z3.out, show P ++ x :: C = L by rw [← HLQ.out]; simp]
        exact HV7.out
      have b3 : decide ((e.length : Int) ≤ (x.length : Int)) = false := decide_eq_false (by omega)
      have b3n : decide (e.length ≤ x.length) = false := decide_eq_false z3
      have b3p : (e.length ≤ x.length) = False := eq_false z3
      have Z3 := Aside0.mk z3
      clear z3
      have hlp : P ++ x :: C = L := by
        rw [← HLQ.out]
        simp
      have HLP := Aside0.mk hlp
      clear hlp
      have hpb : (P.length : Int) ≤ 1000000 := by
        have h1_ := HLE.out
        have h2_ := HLL.out
        omega
      have HPB := Aside0.mk hpb
      clear hpb
      obtain ⟨Y, hY⟩ : ∃ Y, catchmentref11_both.f L (P.length : Int) most = Y := ⟨_, rfl⟩
      have HY := Aside0.mk hY
      obtain ⟨nY, hnY⟩ : ∃ n_, Y.length = n_ := ⟨_, rfl⟩
      have hhd1 : ∀ (W : World) (A7 : Option Addr) (c7 : Nat), catchmentref11_both.VV W (.slice A7 L.length c7) L → Below w.heap.size w W → Calls Try.prog 94 #[.slice A7 L.length c7, .int .i64 (P.length : Int), .int .i64 most] W (fun e' w' => ∃ A8 c8, e' = .returned (.slice A8 nY c8) ∧ catchmentref11_both.VV w' (.slice A8 nY c8) Y ∧ Below w.heap.size w w' ∧ Below W.heap.size W w') := by
        intro W A7 c7 hv hb
        have h_ := HMO.out
        have h2_ := HPB.out
        have := catchmentref11_both.does hv (P.length : Int) most HLL1.out (by omega) (by omega) h_.2 HLS.out
        rw [hY] at this
        refine Calls.mono this ?_
        rintro e8 w8 ⟨v8, rfl, hV8, hB8⟩
        obtain ⟨A8, c8, rfl⟩ := Kd.V_slice hV8
        rw [hnY] at hV8 ⊢
        exact ⟨A8, c8, rfl, hV8, below_step hb hB8, hB8⟩
      have HD1 := Aside0.mk hhd1
      clear hY hhd1
      by_cases z4 : leaf_weld.can L (P.length : Int) most = true
      · have hpos_ : 0 < nY := by
          rw [← hnY, ← HY.out]
          unfold catchmentref11_both.f leaf_weld.w
          rw [if_pos z4, if_pos z4]
          simp only [List.length_append, List.length_cons]
          omega
        have b4 : decide (0 < (nY : Int)) = true := decide_eq_true (by omega)
        have b4n : decide (0 < nY) = true := decide_eq_true hpos_
        have b4z : (nY = 0) = False := eq_false (by omega)
        have b4p : (0 < nY) = True := eq_true hpos_
        clear hpos_
        have Z4 := Aside0.mk z4
        clear z4 hnY
        go_wp2_with (first
          | (go_at_call 94; refine (HD1.out w7 A7 c7 HV7.out HB7.out).mono ?_; rintro e8 w8 ⟨A8, c8, rfl, hV8, hB8, hQ8⟩; have HV8 := Aside0.mk hV8; have HB8 := Aside0.mk hB8; have HQ8 := Aside0.mk hQ8; clear hV8 hB8 hQ8)
          | (go_at_call 93; refine HC1.out.mono ?_; rintro e7 w7 ⟨A7, c7, rfl, hV7, hB7, eb7⟩; have HV7 := Aside0.mk hV7; have HB7 := Aside0.mk hB7; clear hV7 hB7))
        go_ret
        refine ⟨_, rfl, ?_, HB8.out⟩
        rw [← HRES.out]
        unfold catchmentref11_point.res
        rw [if_neg Z0.out, if_neg (show ¬ most < (x.length : Int) by have := Z2.out; omega), if_neg (show ¬ e.length ≤ x.length by have := Z3.out; omega), HLP.out, if_pos Z4.out]
        have := HV8.out
        rw [← HY.out] at this
        unfold catchmentref11_both.f at this
        rw [if_pos Z4.out] at this
        exact this
      have hY0 : Y = [] := by
        rw [← HY.out]
        unfold catchmentref11_both.f
        rw [if_neg z4]
      have hz_ : nY = 0 := by
        rw [← hnY, hY0]
        rfl
      subst hz_
      have Z4 := Aside0.mk z4
      clear z4 hY0 hnY
      obtain ⟨J, hJ⟩ : ∃ J : Int, (P.length : Int) - 1 = J := ⟨_, rfl⟩
      have hJ1 : IntKind.i64.wrap ((P.length : Int) - 1) = J := by
        have := HPB.out
        rw [IntKind.wrap_i64]
        omega
      have hJ2 : wrap64 ((P.length : Int) - 1) = J := by
        have := HPB.out
        unfold wrap64
        omega
      obtain ⟨Y2, hY2⟩ : ∃ Y, catchmentref11_both.f L J most = Y := ⟨_, rfl⟩
      have HY2 := Aside0.mk hY2
      obtain ⟨nY2, hnY2⟩ : ∃ n_, Y2.length = n_ := ⟨_, rfl⟩
      have HJ := Aside0.mk hJ
      have hhd2 : ∀ (W : World) (A7 : Option Addr) (c7 : Nat), catchmentref11_both.VV W (.slice A7 L.length c7) L → Below w.heap.size w W → Calls Try.prog 94 #[.slice A7 L.length c7, .int .i64 J, .int .i64 most] W (fun e' w' => ∃ A8 c8, e' = .returned (.slice A8 nY2 c8) ∧ catchmentref11_both.VV w' (.slice A8 nY2 c8) Y2 ∧ Below w.heap.size w w' ∧ Below W.heap.size W w') := by
        intro W A7 c7 hv hb
        have h_ := HMO.out
        have h2_ := HPB.out
        have := catchmentref11_both.does hv J most HLL1.out (by omega) (by omega) h_.2 HLS.out
        rw [hY2] at this
        refine Calls.mono this ?_
        rintro e8 w8 ⟨v8, rfl, hV8, hB8⟩
        obtain ⟨A8, c8, rfl⟩ := Kd.V_slice hV8
        rw [hnY2] at hV8 ⊢
        exact ⟨A8, c8, rfl, hV8, below_step hb hB8, hB8⟩
      have HD2 := Aside0.mk hhd2
      clear hY2 hJ hhd2
      by_cases z5 : leaf_weld.can L J most = true
      · have hpos_ : 0 < nY2 := by
          rw [← hnY2, ← HY2.out]
          unfold catchmentref11_both.f leaf_weld.w
          rw [if_pos z5, if_pos z5]
          simp only [List.length_append, List.length_cons]
          omega
        have b5 : decide (0 < (nY2 : Int)) = true := decide_eq_true (by omega)
        have b5n : decide (0 < nY2) = true := decide_eq_true hpos_
        have b5z : (nY2 = 0) = False := eq_false (by omega)
        have b5p : (0 < nY2) = True := eq_true hpos_
        clear hpos_
        have Z5 := Aside0.mk z5
        clear z5 hnY2
        go_wp2_with (first
          | (go_at_call 94; refine (HD2.out w8 A7 c7 (Kd.V_below HV7.out HQ8.out) HB8.out).mono ?_; rintro e9 w9 ⟨A9, c9, rfl, hV9, hB9, hQ9⟩; have HV9 := Aside0.mk hV9; have HB9 := Aside0.mk hB9; have HQ9 := Aside0.mk (HQ8.out.trans (hQ9.mono HQ8.out.size)); clear hV9 hB9 hQ9)
          | (go_at_call 94; refine (HD1.out w7 A7 c7 HV7.out HB7.out).mono ?_; rintro e8 w8 ⟨A8, c8, rfl, hV8, hB8, hQ8⟩; have HV8 := Aside0.mk hV8; have HB8 := Aside0.mk hB8; have HQ8 := Aside0.mk hQ8; clear hV8 hB8 hQ8)
          | (go_at_call 93; refine HC1.out.mono ?_; rintro e7 w7 ⟨A7, c7, rfl, hV7, hB7, eb7⟩; have HV7 := Aside0.mk hV7; have HB7 := Aside0.mk hB7; clear hV7 hB7))
        go_ret
        refine ⟨_, rfl, ?_, HB9.out⟩
        rw [← HRES.out]
        unfold catchmentref11_point.res
        rw [if_neg Z0.out, if_neg (show ¬ most < (x.length : Int) by have := Z2.out; omega), if_neg (show ¬ e.length ≤ x.length by have := Z3.out; omega), HLP.out, if_neg Z4.out, HJ.out, if_pos Z5.out]
        have := HV9.out
        rw [← HY2.out] at this
        unfold catchmentref11_both.f at this
        rw [if_pos Z5.out] at this
        exact this
      have hY0 : Y2 = [] := by
        rw [← HY2.out]
        unfold catchmentref11_both.f
        rw [if_neg z5]
      have hz_ : nY2 = 0 := by
        rw [← hnY2, hY0]
        rfl
      subst hz_
      have Z5 := Aside0.mk z5
      clear z5 hY0 hnY2
      go_wp2_with (first
        | (go_at_call 94; refine (HD2.out w8 A7 c7 (Kd.V_below HV7.out HQ8.out) HB8.out).mono ?_; rintro e9 w9 ⟨A9, c9, rfl, hV9, hB9, hQ9⟩; have HV9 := Aside0.mk hV9; have HB9 := Aside0.mk hB9; have HQ9 := Aside0.mk (HQ8.out.trans (hQ9.mono HQ8.out.size)); clear hV9 hB9 hQ9)
        | (go_at_call 94; refine (HD1.out w7 A7 c7 HV7.out HB7.out).mono ?_; rintro e8 w8 ⟨A8, c8, rfl, hV8, hB8, hQ8⟩; have HV8 := Aside0.mk hV8; have HB8 := Aside0.mk hB8; have HQ8 := Aside0.mk hQ8; clear hV8 hB8 hQ8)
        | (go_at_call 93; refine HC1.out.mono ?_; rintro e7 w7 ⟨A7, c7, rfl, hV7, hB7, eb7⟩; have HV7 := Aside0.mk hV7; have HB7 := Aside0.mk hB7; clear hV7 hB7))
      go_ret
      refine ⟨_, rfl, ?_, HB9.out⟩
      rw [← HRES.out]
      unfold catchmentref11_point.res
      rw [if_neg Z0.out, if_neg (show ¬ most < (x.length : Int) by have := Z2.out; omega), if_neg (show ¬ e.length ≤ x.length by have := Z3.out; omega), HLP.out, if_neg Z4.out, HJ.out, if_neg Z5.out]
      exact Kd.V_below HV7.out HQ9.out

end Go.Proofs.Ytpfikmchimlneaa.M3
