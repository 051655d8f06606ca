-- written by a program of this session (wip/myprint.py), over the kit's printer and the session's own contracts
import Derived.Test.YtpfikmchimlneaaM3x0
import Derived.Test.YtpfikmchimlneaaM3P0
import Derived.Test.YtpfikmchimlneaaM3x35
import Derived.Test.YtpfikmchimlneaaM3P1
import Derived.Test.YtpfikmchimlneaaM3x50
namespace Go.Proofs.Ytpfikmchimlneaa.M3
open Go.RowKit Go.Proofs.YtpfikmchimlneaaW.PrintWords Go.Proofs.YtpfikmchimlneaaW.PrintLast Go.Proofs.YtpfikmchimlneaaW.PrintMore Go.Proofs.YtpfikmchimlneaaW.Mine
attribute [local go_sem] max2_int min2_int max_two min_two max_three min_three max_four min_four max2_str min2_str binOp_gtr_str binOp_leq_str binOp_geq_str   -- for this text's walks alone
set_option linter.unusedVariables false
set_option linter.unusedSimpArgs false

/-! ### leaf_Fold: function 34 -/
-- over leaf_point, block_Apply, msg_IsPoint, leaf_copied, api_Entry_74
open Go.Proofs.YtpfikmchimlneaaW.Nest Go.Proofs.YtpfikmchimlneaaW.Sl
/-- a message that clears: each block by itself -/
def leaf_Fold.swept (k : Nat) (x : S69) (xs : List (List S85)) : Option (List (List S85)) := xs.mapM fun e => block_Apply.f k e x.f0 x.f1 x.f2 x.f3 x.f4 x.f5
def leaf_Fold.step (k : Nat) (most : Int) (xs : List (List S85)) (x : S69) : Option (List (List S85)) :=
  if xs.length < 1000000 then (msg_IsPoint.f x.f0 x.f1 x.f2 x.f3 x.f4 x.f5).bind fun p => if p = true then leaf_point.f k xs x.f0 x.f1 x.f2 x.f3 x.f4 x.f5 most else if x.f0 = 4 then (leaf_Fold.swept k x xs).map fun ys => ys.filter fun y => !(decide (y.length = 0)) else some xs
  else none
def leaf_Fold.g (k : Nat) (l0 : List (List S85)) (l1 : List S69) (most : Int) : Option (List (List S85)) := (leaf_copied.f l0).bind fun xs => l1.foldlM (leaf_Fold.step k (max most 2)) xs
def leaf_Fold.f (k : Nat) (l0 : List (List S85)) (l1 : List S69) (most : Int) : Option (List (List S85)) := if most ≤ 9223372036854775807 then leaf_Fold.g k l0 l1 most else none
theorem leaf_Fold.pmono : ∀ a0 a1 a2 a3 a4 a5 a6 a7 k, LeO (leaf_point.f k a0 a1 a2 a3 a4 a5 a6 a7) (leaf_point.f (k + 1) a0 a1 a2 a3 a4 a5 a6 a7) := by
  intro a0 a1 a2 a3 a4 a5 a6 a7 k
  unfold leaf_point.f
  refine LeO.ite (LeO.bind (block_Apply.mono _ _ _ _ _ _ _ _) fun _ => LeO.refl _) (LeO.bind (leaf_of.mono _ _ _) fun _ => LeO.ite (LeO.bind (block_Apply.mono _ _ _ _ _ _ _ _) fun _ => LeO.refl _) (LeO.refl _))
theorem leaf_Fold.mmono {α β : Type} {f f' : α → Option β} (h : ∀ x, LeO (f x) (f' x)) : ∀ xs : List α, LeO (xs.mapM f) (xs.mapM f')
  | [] => LeO.refl _
  | x :: xs => by
    rw [List.mapM_cons, List.mapM_cons]
    exact LeO.bind (h x) fun _ => LeO.bind (leaf_Fold.mmono h xs) fun _ => LeO.refl _
theorem leaf_Fold.fmono {α β : Type} {f f' : β → α → Option β} (h : ∀ y x, LeO (f y x) (f' y x)) : ∀ (xs : List α) (y : β), LeO (xs.foldlM f y) (xs.foldlM f' y)
  | [], _ => LeO.refl _
  | x :: xs, y => by
    rw [List.foldlM_cons, List.foldlM_cons]
    exact LeO.bind (h y x) fun z => leaf_Fold.fmono h xs z
theorem leaf_Fold.mono : ∀ a0 a1 a2 k, LeO (leaf_Fold.f k a0 a1 a2) (leaf_Fold.f (k + 1) a0 a1 a2) := by
  intro a0 a1 a2 k
  unfold leaf_Fold.f leaf_Fold.g
  refine LeO.ite (LeO.bind (LeO.refl _) fun xs => leaf_Fold.fmono (fun y x => ?_) a1 xs) (LeO.refl _)
  unfold leaf_Fold.step leaf_Fold.swept
  exact LeO.ite (LeO.bind (LeO.refl _) fun _ => LeO.ite (leaf_Fold.pmono _ _ _ _ _ _ _ _ _) (LeO.ite (LeO.map _ (leaf_Fold.mmono (fun _ => block_Apply.mono _ _ _ _ _ _ _ _) _)) (LeO.refl _))) (LeO.refl _)
theorem leaf_Fold.msome {α β : Type} (f : α → Option β) (a : α) (b : β) : ∀ (xs : List α) (zs : List β), xs.mapM f = some zs → zs.length = xs.length ∧ ∀ q, q < xs.length → f (xs.getD q a) = some (zs.getD q b)
  | [], zs, h => by
    rw [List.mapM_nil] at h
    cases h
    exact ⟨rfl, fun q hq => absurd hq (Nat.not_lt_zero q)⟩
  | x :: xs, zs, h => by
    rw [List.mapM_cons] at h
    obtain ⟨y, h1, h⟩ := Option.bind_eq_some_iff.mp h
    obtain ⟨ys, h2, h⟩ := Option.bind_eq_some_iff.mp h
    cases h
    obtain ⟨h3, h4⟩ := leaf_Fold.msome f a b xs ys h2
    refine ⟨by rw [List.length_cons, List.length_cons, h3], fun q hq => ?_⟩
    cases q with
    | zero => exact h1
    | succ q => exact h4 q (by rw [List.length_cons] at hq; omega)
theorem leaf_Fold.mset {α : Type} {zs xs : List α} {n q : Nat} (b : α) (hz : zs.length = n) (hx : xs.length = n) (hq : q < n) : (zs.take q ++ xs.drop q).set q (zs.getD q b) = zs.take (q + 1) ++ xs.drop (q + 1) := by
  have h1 : (zs.take q).length = q := by rw [List.length_take]; omega
  rw [List.set_append, if_neg (by omega), h1, Nat.sub_self, List.drop_eq_getElem_cons (by omega), List.set_cons_zero, List.take_add_one, List.getElem?_eq_getElem (by omega), List.append_assoc, List.getD_eq_getElem?_getD, List.getElem?_eq_getElem (by omega)]
  rfl
theorem leaf_Fold.mget {α : Type} {zs xs : List α} {n q : Nat} (b : α) (hz : zs.length = n) (hx : xs.length = n) (hq : q < n) : (zs.take q ++ xs.drop q).getD q b = xs.getD q b := by
  have h1 : (zs.take q).length = q := by rw [List.length_take]; omega
  rw [List.getD_eq_getElem?_getD, List.getElem?_append_right (by omega), h1, Nat.sub_self, List.getElem?_drop, Nat.add_zero, List.getD_eq_getElem?_getD]
theorem leaf_Fold.mlen {α : Type} {zs xs : List α} {n q : Nat} (hz : zs.length = n) (hx : xs.length = n) (hq : q ≤ n) : (zs.take q ++ xs.drop q).length = n := by
  rw [List.length_append, List.length_take, List.length_drop]
  omega
/-- slices.DeleteFunc of no blocks -/
theorem leaf_Fold.dnil (A : Option Addr) (c : Nat) (w : World) : Calls Try.prog 74 #[.slice A 0 c, .func (.func 75) #[] #[]] w fun e w' => e = .returned (.slice A 0 c) ∧ Below w.heap.size w w' := by
  go_enter Try.func74, Try.ntmps74
  go_wp2
  refine wp_loop_rounds 1 ?_
  iterate 1 (rw [rounds_succ]; go_wp2)
  go_ret
  exact ⟨rfl, Below.refl _ _⟩
set_option maxHeartbeats 16000000 in
set_option maxRecDepth 100000 in
theorem leaf_Fold.calls0 (k : Nat) (A0 : Option Addr) (c0 : Nat) (l0 : List (List S85)) (A1 : Option Addr) (c1 : Nat) (l1 : List S69) (most : Int) (r : List (List S85)) (w : World) (hr0 : Kd.C (Kd.slice 85 k85) w A0 l0.length l0) (hc0 : l0.length ≤ c0) (hr1 : Kd.C k69 w A1 l1.length l1) (hc1 : l1.length ≤ c1) (hm : most ≤ 9223372036854775807) (h : leaf_Fold.g k l0 l1 most = some r) :
    Calls Try.prog 34 #[.slice A0 l0.length c0, .slice A1 l1.length c1, .int .i64 most] w fun e w' => ∃ v', e = .returned v' ∧ NR k85 85 74 w' w.heap.size v' r ∧ Below w.heap.size w w' := by
  unfold leaf_Fold.g at h
  obtain ⟨xs0, hcp, h⟩ := Option.bind_eq_some_iff.mp h
  have HR0 := Aside0.mk hr0
  have HC0 := Aside0.mk hc0
  have HR1 := Aside0.mk hr1
  have HCP := Aside0.mk hcp
  obtain ⟨M, hM⟩ : ∃ M, (if most < 2 then 2 else most) = M := ⟨_, rfl⟩
  have hM0 : max most 2 = M := by rw [← hM]; split <;> omega
  rw [hM0] at h
  have hM1 : 2 ≤ M := by omega
  have hM2 : M ≤ 9223372036854775807 := by omega
  have HM := Aside0.mk (And.intro hM1 hM2)
  have H := Aside0.mk h
  obtain ⟨n1, hn1⟩ : ∃ n, l1.length = n := ⟨_, rfl⟩
  have HN1 := Aside0.mk hn1
  have hL2 : n1 ≤ 9223372036854775807 := hn1 ▸ hr1.2.1
  rw [hn1] at HR1 ⊢
  clear h hr0 hc0 hr1 hcp hM0 hM1 hn1 hc1; (try clear hM2)
  go_enter Try.func34, Try.ntmps34
  go_wp2_with (go_at_call 70; refine (leaf_copied.calls A0 c0 l0 xs0 _ HR0.out HC0.out HCP.out).mono ?_; rintro e w1 ⟨v0, rfl, hR, hB⟩; have HNF := Aside0.mk (NR.of hR); have HBF := Aside0.mk hB; clear hR hB)
  go_loopw [0, 16] (fun v i wr => ∃ (j : Nat) (xs : List (List S85)), i = .int .i64 (j : Int) ∧ j ≤ n1 ∧ Aside0 ((l1.drop j).foldlM (leaf_Fold.step k M) xs = some r) ∧ Aside0 (NR k85 85 74 wr w.heap.size v xs) ∧ Aside0 (Below w.heap.size w wr)) (fun _ i _ => n1 - (intOf i).toNat)
  case atStart => exact ⟨0, xs0, rfl, Nat.zero_le _, H, HNF, HBF⟩
  case round =>
    obtain ⟨j, xs, rfl, hj, HF, HNR, HB⟩ := hrel
    clear HNF HBF H HCP HR0 HC0
    by_cases hlt : j < n1
    · obtain ⟨x, hx⟩ : ∃ x, l1.getD j z69 = x := ⟨_, rfl⟩
      have hd : l1.drop j = x :: l1.drop (j + 1) := by
        have hj2 : j < l1.length := by rw [HN1.out]; exact hlt
        rw [List.drop_eq_getElem_cons hj2, ← hx, List.getD_eq_getElem?_getD, List.getElem?_eq_getElem hj2]
        rfl
      have hf0 := HF.out
      rw [hd, List.foldlM_cons] at hf0
      obtain ⟨ys, hst0, hf⟩ := Option.bind_eq_some_iff.mp hf0
      have HF1 := Aside0.mk hf
      clear hf0
      unfold leaf_Fold.step at hst0
      by_cases hlen : xs.length < 1000000
      rotate_left
      · rw [if_neg hlen] at hst0
        cases hst0
      rw [if_pos hlen] at hst0
      obtain ⟨P_, hp, hst⟩ := Option.bind_eq_some_iff.mp hst0
      obtain ⟨ad, rfl, x0, x1, x2, x3, x4, x5⟩ := at_T69 (Kd.C_below HR1.out HB.out) (j : Int) (by omega) (by omega)
      have hrd : rd_T69 l1 (j : Int) = x := by unfold rd_T69; rw [Int.toNat_natCast]; exact hx
      rw [hrd] at x0 x1 x2 x3 x4 x5
      simp only [Int.toNat_natCast] at x0 x1 x2 x3 x4 x5
      have HP := Aside0.mk hp
      have HJ := Aside0.mk hlt
      have HLEN := Aside0.mk hlen
      have HST := Aside0.mk hst
      clear hst hst0 hp hf hd hx hlen hrd HF
      cases P_
      · have hst := HST.out
        rw [if_neg (by decide)] at hst
        by_cases hk4 : x.f0 = 4
        · rw [if_pos hk4] at hst
          obtain ⟨zs, hzs, rfl⟩ := Option.map_eq_some_iff.mp hst
          unfold leaf_Fold.swept at hzs
          obtain ⟨hzl, hze⟩ := leaf_Fold.msome _ [] [] xs zs hzs
          have HZE := Aside0.mk hze
          obtain ⟨n, hn⟩ : ∃ n, xs.length = n := ⟨_, rfl⟩
          have HXN := Aside0.mk hn
          have HZN := Aside0.mk (hzl.trans hn)
          have hb4 : (x.f0 == 4) = true := beq_iff_eq.mpr hk4
          obtain ⟨A, c, rfl⟩ := HNR.out.slice
          rw [hn] at HNR ⊢
          have hn6 : n < 1000000 := by have := HLEN.out; omega
          clear hk4 hst hzs hzl hze hn HST HLEN
          go_wp2_with (first
            | ((with_reducible refine gate_dst (N := 8) rfl ?_); refine box_event ?hg (N := 8) ?hd (cs := #[.int .u8 0, .int .i64 0, .string (⟨#[]⟩ : ByteArray), .string (⟨#[]⟩ : ByteArray), .string (⟨#[]⟩ : ByteArray), .int .u64 0]) (t := 69) ?hr ?_; (case hd => rfl); (case hg => rfl); (case hr => first | (go_simp; done) | (go_simp; rfl)); intro gx hgx w2 hz2 hb2; have HZ2 := Aside0.mk hz2; have HB2 := Aside0.mk hb2; have HGX := Aside0.mk hgx; clear hz2 hb2 hgx)
            | (refine store6 rfl (p := 8) rfl rfl (.int .u8 x.f0) (.int .i64 x.f1) (.string x.f2) (.string x.f3) (.string x.f4) (.int .u64 x.f5) (by first | rfl | (simp [Act.eval, Act.put]; done)) (by first | rfl | (simp [Act.eval, Act.put]; done)) HZ2.out (by kernel_rfl) (by simp [Value.oneCell']) ?_; intro w3 hx3 hg3; have HXw3 := Aside0.mk hx3; have HB3 := Aside0.mk (HB2.out.grown hg3 HB2.out.size (fun q hq => by cases hq; exact Nat.le_of_eq HGX.out.symm)); clear hx3 hg3; have q0w3 : w3.cell? ⟨gx, 0, none⟩ = some (.int .u8 x.f0) := (blk_cell HXw3.out 0).trans rfl; have q1w3 : w3.cell? ⟨gx, 1, none⟩ = some (.int .i64 x.f1) := (blk_cell HXw3.out 1).trans rfl; have q2w3 : w3.cell? ⟨gx, 2, none⟩ = some (.string x.f2) := (blk_cell HXw3.out 2).trans rfl; have q3w3 : w3.cell? ⟨gx, 3, none⟩ = some (.string x.f3) := (blk_cell HXw3.out 3).trans rfl; have q4w3 : w3.cell? ⟨gx, 4, none⟩ = some (.string x.f4) := (blk_cell HXw3.out 4).trans rfl; have q5w3 : w3.cell? ⟨gx, 5, none⟩ = some (.int .u64 x.f5) := (blk_cell HXw3.out 5).trans rfl; )
            | (go_at_call 71; refine (msg_IsPoint.calls x.f0 x.f1 x.f2 x.f3 x.f4 x.f5 _ _ HP.out).mono ?_; rintro e w4 ⟨rfl, hb4⟩; have HB4 := Aside0.mk (HB3.out.trans (hb4.mono HB3.out.size)); have HXw4 := Aside0.mk ((hb4.block gx (blk_lt HXw3.out)).trans HXw3.out); clear q0w3 q1w3 q2w3 q3w3 q4w3 q5w3; have q0w4 : w4.cell? ⟨gx, 0, none⟩ = some (.int .u8 x.f0) := (blk_cell HXw4.out 0).trans rfl; have q1w4 : w4.cell? ⟨gx, 1, none⟩ = some (.int .i64 x.f1) := (blk_cell HXw4.out 1).trans rfl; have q2w4 : w4.cell? ⟨gx, 2, none⟩ = some (.string x.f2) := (blk_cell HXw4.out 2).trans rfl; have q3w4 : w4.cell? ⟨gx, 3, none⟩ = some (.string x.f3) := (blk_cell HXw4.out 3).trans rfl; have q4w4 : w4.cell? ⟨gx, 4, none⟩ = some (.string x.f4) := (blk_cell HXw4.out 4).trans rfl; have q5w4 : w4.cell? ⟨gx, 5, none⟩ = some (.int .u64 x.f5) := (blk_cell HXw4.out 5).trans rfl; clear hb4))
          clear q0w4 q1w4 q2w4 q3w4 q4w4 q5w4
          go_loopw [33] (fun i wr => ∃ q : Nat, i = .int .i64 (q : Int) ∧ q ≤ n ∧ Aside0 (NR k85 85 74 wr w.heap.size (.slice A n c) (zs.take q ++ xs.drop q)) ∧ Aside0 (Below w.heap.size w wr) ∧ Aside0 (wr.heap[gx]? = some (.cells #[.int .u8 x.f0, .int .i64 x.f1, .string x.f2, .string x.f3, .string x.f4, .int .u64 x.f5] 69 (0, 0)))) (fun i _ => n - (intOf i).toNat)
          case atStart => exact ⟨0, rfl, Nat.zero_le _, ⟨by simpa using HNR.out.below HB4.out⟩, ⟨HB.out.trans (HB4.out.mono HB.out.size)⟩, HXw4⟩
          case round =>
            obtain ⟨q, rfl, hq, HNQ, HBQ, HXQ⟩ := hrel
            by_cases hlt2 : q < n
            · obtain ⟨e, he⟩ : ∃ e, zs.getD q [] = e := ⟨_, rfl⟩
              have HE := Aside0.mk (show block_Apply.f k (xs.getD q []) x.f0 x.f1 x.f2 x.f3 x.f4 x.f5 = some e from he ▸ HZE.out q (by rw [HXN.out]; exact hlt2))
              have hql := leaf_Fold.mlen HZN.out HXN.out hq
              have HQL := Aside0.mk hql
              have HQ := Aside0.mk hlt2
              obtain ⟨g, c', hs, hbg, hgl⟩ := HNQ.out.form (by rw [hql]; omega)
              obtain ⟨rfl, rfl⟩ : A = some ⟨g, 0, none⟩ ∧ c = c' := by injection hs with h1 h2 h3; exact ⟨h1, h3⟩
              obtain ⟨-, -, -, ⟨Ai, ci, hci, hRi⟩, hfi⟩ := HNQ.out.elem q (by rw [hql]; exact hlt2)
              rw [leaf_Fold.mget [] HZN.out HXN.out hlt2] at hci hRi
              have HSE := Aside0.mk (show (zs.take q ++ xs.drop q).set q e = zs.take (q + 1) ++ xs.drop (q + 1) from he ▸ leaf_Fold.mset [] HZN.out HXN.out hlt2)
              generalize hy : xs.getD q [] = y at hci hRi HE
              have HY := Aside0.mk hy
              have HRI := Aside0.mk hRi
              have HBG := Aside0.mk hbg
              have HGL := Aside0.mk hgl
              have HGN := Aside0.mk (show gx ≠ g from fun h => by rw [h] at HXQ; obtain ⟨hs', hR', _⟩ := HNQ.out; obtain ⟨cur, hcur⟩ := (Rw.of hR').heap; have e1 := hcur.symm.trans HXQ.out; injection e1 with e1; injection e1 with _ e1; exact absurd e1 (by decide))
              have d0 : wr.cell? ⟨gx, 0, none⟩ = some (.int .u8 x.f0) := (blk_cell HXQ.out 0).trans rfl
              have d1 : wr.cell? ⟨gx, 1, none⟩ = some (.int .i64 x.f1) := (blk_cell HXQ.out 1).trans rfl
              have d2 : wr.cell? ⟨gx, 2, none⟩ = some (.string x.f2) := (blk_cell HXQ.out 2).trans rfl
              have d3 : wr.cell? ⟨gx, 3, none⟩ = some (.string x.f3) := (blk_cell HXQ.out 3).trans rfl
              have d4 : wr.cell? ⟨gx, 4, none⟩ = some (.string x.f4) := (blk_cell HXQ.out 4).trans rfl
              have d5 : wr.cell? ⟨gx, 5, none⟩ = some (.int .u64 x.f5) := (blk_cell HXQ.out 5).trans rfl
              clear he hs hbg hgl hRi hy hql
              go_wp2_with fail
              go_region_with (first
                | (go_at_call 73; refine (block_Apply.calls k Ai ci y x.f0 x.f1 x.f2 x.f3 x.f4 x.f5 e _ ?hC ?hL HE.out).mono ?_; (case hC => exact Kd.C_below (Kd.R_reads' HRI.out).2.2 (by repeat (first | exact Below.refl _ _ | apply y1_ | apply y2_ | apply y3_))); (case hL => exact (Kd.R_reads' HRI.out).2.1); rintro z w5 ⟨v5, rfl, hR5, hB5⟩; have HB5 := Aside0.mk (below_step (show Below wr.heap.size wr _ from by repeat (first | exact Below.refl _ _ | apply y1_ | apply y2_ | apply y3_)) hB5); have HN5 := Aside0.mk (HNQ.out.below HB5.out); have HR5 := Aside0.mk (Kd.R_lower hR5 (show w.heap.size ≤ _ from Nat.le_trans HBQ.out.size (below_size (show Below wr.heap.size wr _ from by repeat (first | exact Below.refl _ _ | apply y1_ | apply y2_ | apply y3_))))); obtain ⟨Aa, ca, rfl⟩ := Kd.R_slice hR5; obtain ⟨-, -, -, ⟨Ax, cx, hx2, hrx⟩, hf2⟩ := HN5.out.elem q (by rw [HQL.out]; exact HQ.out); clear hrx hR5 hB5; rw [leaf_Fold.mget [] HZN.out HXN.out HQ.out, HY.out] at hx2))
              all_goals (
                have HN6 := Aside0.mk (show NR k85 85 74 (w5.setCell ⟨g, q, none⟩ (.slice Aa e.length ca)) w.heap.size (.slice (some ⟨g, 0, none⟩) n c) (zs.take (q + 1) ++ xs.drop (q + 1)) from HSE.out ▸ HN5.out.set api_Entry_95.ne q ((Aa, e.length, ca) : Hd) (y := e) HR5.out)
                have HB6 := Aside0.mk ((HBQ.out.trans (HB5.out.mono HBQ.out.size)).grown (set_grown g q (.slice Aa e.length ca)) (Nat.le_trans HBQ.out.size HB5.out.size) (fun j hj => by cases hj; exact HBG.out))
                have HX6 := Aside0.mk ((Below.heap_setCell w5 ⟨g, q, none⟩ (.slice Aa e.length ca) gx HGN.out).trans ((HB5.out.block gx (blk_lt HXQ.out)).trans HXQ.out))
                clear hx2 hf2 hci hfi d0 d1 d2 d3 d4 d5
                go_wp2
                go_roundw
                case rel => exact ⟨q + 1, by go_num, (by have := HQ.out; omega), HN6, HB6, HX6⟩
                case measure => simp [intOf]; have := HQ.out; omega)
            · obtain rfl : n = q := by omega
              have hzs : zs.take n ++ xs.drop n = zs := by rw [List.take_of_length_le (by rw [HZN.out]; exact Nat.le_refl _), List.drop_of_length_le (by rw [HXN.out]; exact Nat.le_refl _), List.append_nil]
              have HNZ := Aside0.mk (show NR k85 85 74 wr w.heap.size (.slice A n c) zs from hzs ▸ HNQ.out)
              clear hzs HNQ
              by_cases hp0 : 0 < n
              · have HP0 := Aside0.mk hp0
                go_wp2_with (go_at_call 74; refine (api_Entry_74.del HNZ.out (by rw [HZN.out]; exact HP0.out)).mono ?_; rintro z w6 ⟨v6, rfl, hN6, hB6⟩; have HN6 := Aside0.mk hN6; have HB6 := Aside0.mk (HBQ.out.trans hB6); clear hN6 hB6)
                go_roundw
                case rel => exact ⟨j + 1, _, by go_num, (by have := HJ.out; omega), HF1, HN6, HB6⟩
                case measure => simp [intOf]; have := HJ.out; omega
              · obtain rfl : n = 0 := by omega
                have hz0 : zs = [] := List.eq_nil_of_length_eq_zero HZN.out
                subst hz0
                go_wp2_with (go_at_call 74; refine (leaf_Fold.dnil A c _).mono ?_; rintro z w6 ⟨rfl, hB6⟩; have HN6 := Aside0.mk (HNZ.out.below hB6); have HB6 := Aside0.mk (HBQ.out.trans (hB6.mono HBQ.out.size)); clear hB6)
                go_roundw
                case rel => exact ⟨j + 1, _, by go_num, (by have := HJ.out; omega), HF1, HN6, HB6⟩
                case measure => simp [intOf]; have := HJ.out; omega
        · rw [if_neg hk4] at hst
          cases hst
          have hb4 : (x.f0 == 4) = false := beq_eq_false_iff_ne.mpr hk4
          clear HST hk4
          go_wp2_with (first
            | ((with_reducible refine gate_dst (N := 8) rfl ?_); refine box_event ?hg (N := 8) ?hd (cs := #[.int .u8 0, .int .i64 0, .string (⟨#[]⟩ : ByteArray), .string (⟨#[]⟩ : ByteArray), .string (⟨#[]⟩ : ByteArray), .int .u64 0]) (t := 69) ?hr ?_; (case hd => rfl); (case hg => rfl); (case hr => first | (go_simp; done) | (go_simp; rfl)); intro gx hgx w2 hz2 hb2; have HZ2 := Aside0.mk hz2; have HB2 := Aside0.mk hb2; have HGX := Aside0.mk hgx; clear hz2 hb2 hgx)
            | (refine store6 rfl (p := 8) rfl rfl (.int .u8 x.f0) (.int .i64 x.f1) (.string x.f2) (.string x.f3) (.string x.f4) (.int .u64 x.f5) (by first | rfl | (simp [Act.eval, Act.put]; done)) (by first | rfl | (simp [Act.eval, Act.put]; done)) HZ2.out (by kernel_rfl) (by simp [Value.oneCell']) ?_; intro w3 hx3 hg3; have HXw3 := Aside0.mk hx3; have HB3 := Aside0.mk (HB2.out.grown hg3 HB2.out.size (fun q hq => by cases hq; exact Nat.le_of_eq HGX.out.symm)); clear hx3 hg3; have q0w3 : w3.cell? ⟨gx, 0, none⟩ = some (.int .u8 x.f0) := (blk_cell HXw3.out 0).trans rfl; have q1w3 : w3.cell? ⟨gx, 1, none⟩ = some (.int .i64 x.f1) := (blk_cell HXw3.out 1).trans rfl; have q2w3 : w3.cell? ⟨gx, 2, none⟩ = some (.string x.f2) := (blk_cell HXw3.out 2).trans rfl; have q3w3 : w3.cell? ⟨gx, 3, none⟩ = some (.string x.f3) := (blk_cell HXw3.out 3).trans rfl; have q4w3 : w3.cell? ⟨gx, 4, none⟩ = some (.string x.f4) := (blk_cell HXw3.out 4).trans rfl; have q5w3 : w3.cell? ⟨gx, 5, none⟩ = some (.int .u64 x.f5) := (blk_cell HXw3.out 5).trans rfl; )
            | (go_at_call 71; refine (msg_IsPoint.calls x.f0 x.f1 x.f2 x.f3 x.f4 x.f5 _ _ HP.out).mono ?_; rintro e w4 ⟨rfl, hb4⟩; have HB4 := Aside0.mk (HB3.out.trans (hb4.mono HB3.out.size)); have HXw4 := Aside0.mk ((hb4.block gx (blk_lt HXw3.out)).trans HXw3.out); clear q0w3 q1w3 q2w3 q3w3 q4w3 q5w3; have q0w4 : w4.cell? ⟨gx, 0, none⟩ = some (.int .u8 x.f0) := (blk_cell HXw4.out 0).trans rfl; have q1w4 : w4.cell? ⟨gx, 1, none⟩ = some (.int .i64 x.f1) := (blk_cell HXw4.out 1).trans rfl; have q2w4 : w4.cell? ⟨gx, 2, none⟩ = some (.string x.f2) := (blk_cell HXw4.out 2).trans rfl; have q3w4 : w4.cell? ⟨gx, 3, none⟩ = some (.string x.f3) := (blk_cell HXw4.out 3).trans rfl; have q4w4 : w4.cell? ⟨gx, 4, none⟩ = some (.string x.f4) := (blk_cell HXw4.out 4).trans rfl; have q5w4 : w4.cell? ⟨gx, 5, none⟩ = some (.int .u64 x.f5) := (blk_cell HXw4.out 5).trans rfl; clear hb4))
          go_roundw
          case rel => exact ⟨j + 1, xs, by go_num, (by have := HJ.out; omega), HF1, ⟨HNR.out.below HB4.out⟩, ⟨HB.out.trans (HB4.out.mono HB.out.size)⟩⟩
          case measure => simp [intOf]; have := HJ.out; omega
      · have HPT := Aside0.mk (show leaf_point.f k xs x.f0 x.f1 x.f2 x.f3 x.f4 x.f5 M = some ys from HST.out)
        go_wp2_with (first
          | ((with_reducible refine gate_dst (N := 8) rfl ?_); refine box_event ?hg (N := 8) ?hd (cs := #[.int .u8 0, .int .i64 0, .string (⟨#[]⟩ : ByteArray), .string (⟨#[]⟩ : ByteArray), .string (⟨#[]⟩ : ByteArray), .int .u64 0]) (t := 69) ?hr ?_; (case hd => rfl); (case hg => rfl); (case hr => first | (go_simp; done) | (go_simp; rfl)); intro gx hgx w2 hz2 hb2; have HZ2 := Aside0.mk hz2; have HB2 := Aside0.mk hb2; have HGX := Aside0.mk hgx; clear hz2 hb2 hgx)
          | (refine store6 rfl (p := 8) rfl rfl (.int .u8 x.f0) (.int .i64 x.f1) (.string x.f2) (.string x.f3) (.string x.f4) (.int .u64 x.f5) (by first | rfl | (simp [Act.eval, Act.put]; done)) (by first | rfl | (simp [Act.eval, Act.put]; done)) HZ2.out (by kernel_rfl) (by simp [Value.oneCell']) ?_; intro w3 hx3 hg3; have HXw3 := Aside0.mk hx3; have HB3 := Aside0.mk (HB2.out.grown hg3 HB2.out.size (fun q hq => by cases hq; exact Nat.le_of_eq HGX.out.symm)); clear hx3 hg3; have q0w3 : w3.cell? ⟨gx, 0, none⟩ = some (.int .u8 x.f0) := (blk_cell HXw3.out 0).trans rfl; have q1w3 : w3.cell? ⟨gx, 1, none⟩ = some (.int .i64 x.f1) := (blk_cell HXw3.out 1).trans rfl; have q2w3 : w3.cell? ⟨gx, 2, none⟩ = some (.string x.f2) := (blk_cell HXw3.out 2).trans rfl; have q3w3 : w3.cell? ⟨gx, 3, none⟩ = some (.string x.f3) := (blk_cell HXw3.out 3).trans rfl; have q4w3 : w3.cell? ⟨gx, 4, none⟩ = some (.string x.f4) := (blk_cell HXw3.out 4).trans rfl; have q5w3 : w3.cell? ⟨gx, 5, none⟩ = some (.int .u64 x.f5) := (blk_cell HXw3.out 5).trans rfl; )
          | (go_at_call 71; refine (msg_IsPoint.calls x.f0 x.f1 x.f2 x.f3 x.f4 x.f5 _ _ HP.out).mono ?_; rintro e w4 ⟨rfl, hb4⟩; have HB4 := Aside0.mk (HB3.out.trans (hb4.mono HB3.out.size)); have HXw4 := Aside0.mk ((hb4.block gx (blk_lt HXw3.out)).trans HXw3.out); clear q0w3 q1w3 q2w3 q3w3 q4w3 q5w3; have q0w4 : w4.cell? ⟨gx, 0, none⟩ = some (.int .u8 x.f0) := (blk_cell HXw4.out 0).trans rfl; have q1w4 : w4.cell? ⟨gx, 1, none⟩ = some (.int .i64 x.f1) := (blk_cell HXw4.out 1).trans rfl; have q2w4 : w4.cell? ⟨gx, 2, none⟩ = some (.string x.f2) := (blk_cell HXw4.out 2).trans rfl; have q3w4 : w4.cell? ⟨gx, 3, none⟩ = some (.string x.f3) := (blk_cell HXw4.out 3).trans rfl; have q4w4 : w4.cell? ⟨gx, 4, none⟩ = some (.string x.f4) := (blk_cell HXw4.out 4).trans rfl; have q5w4 : w4.cell? ⟨gx, 5, none⟩ = some (.int .u64 x.f5) := (blk_cell HXw4.out 5).trans rfl; clear hb4)
          | (go_at_call 72; refine (leaf_point.calls k (HNR.out.below HB4.out) x.f0 x.f1 x.f2 x.f3 x.f4 x.f5 M ys HLEN.out (Nat.le_trans HB.out.size HB4.out.size) HM.out.1 HM.out.2 HPT.out).mono ?_; rintro e w5 ⟨v5, rfl, hN5, hB5⟩; have HN5 := Aside0.mk hN5; have HB5 := Aside0.mk ((HB.out.trans (HB4.out.mono HB.out.size)).trans hB5); clear hN5 hB5))
        go_roundw
        case rel => exact ⟨j + 1, ys, by go_num, (by have := HJ.out; omega), HF1, HN5, HB5⟩
        case measure => simp [intOf]; have := HJ.out; omega
    · obtain rfl : j = n1 := by omega
      go_wp2
      go_ret
      have hf := HF.out
      rw [List.drop_of_length_le (by rw [HN1.out]; exact Nat.le_refl _)] at hf
      cases hf
      exact ⟨_, rfl, HNR.out, HB.out⟩
theorem leaf_Fold.calls (k : Nat) (A0 : Option Addr) (c0 : Nat) (l0 : List (List S85)) (A1 : Option Addr) (c1 : Nat) (l1 : List S69) (a2 : Int) (r : List (List S85)) (w : World) (hr0 : Kd.C (Kd.slice 85 k85) w A0 l0.length l0) (hc0 : l0.length ≤ c0) (hr1 : Kd.C k69 w A1 l1.length l1) (hc1 : l1.length ≤ c1) (h : leaf_Fold.f k l0 l1 a2 = some r) :
    Calls Try.prog 34 #[.slice A0 l0.length c0, .slice A1 l1.length c1, .int .i64 a2] w fun e w' => ∃ v0_ : Value, e = .returned (v0_) ∧ Kd.R (Kd.slice 85 k85) 74 w' w.heap.size (fun _ => True) v0_ r ∧ Below w.heap.size w w' := by
  unfold leaf_Fold.f at h
  by_cases hm : a2 ≤ 9223372036854775807
  · rw [if_pos hm] at h
    refine (leaf_Fold.calls0 k A0 c0 l0 A1 c1 l1 a2 r w hr0 hc0 hr1 hc1 hm h).mono ?_
    rintro e w' ⟨v, rfl, hN, hB⟩
    exact ⟨v, rfl, hN.to api_Entry_95.ne, hB⟩
  · rw [if_neg hm] at h
    cases h

end Go.Proofs.Ytpfikmchimlneaa.M3
