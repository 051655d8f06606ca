/- The law ArenaOnce, walked: true. -/
import Derived.Test.YtpfikmchimlneaaArOnce0
import Derived.Outline
set_option linter.unusedVariables false
set_option linter.unusedSimpArgs false
namespace Go.Proofs.Ytpfikmchimlneaa.Ar
open Go.Shelf Go.Proofs.YtpfikmchimlneaaW.Mine Go.RowKit Go.Proofs.YtpfikmchimlneaaW.PrintWords Go.Proofs.YtpfikmchimlneaaW.PrintWords.Kd Go.Proofs.YtpfikmchimlneaaW.PrintLast Go.Proofs.YtpfikmchimlneaaW.PrintMore Go.Proofs.YtpfikmchimlneaaW.Sl Go.Proofs.YtpfikmchimlneaaW.Ar
attribute [local go_sem] Oper.semAt_some
variable {B g : Nat} {w W V W' : World} {v v' : Value} {s s' : St Int}
/-- what ArenaOnce's second loop keeps -/
structure TInv (w : World) (gs D g : Nat) (W : World) (u : Int) : Prop where mk ::
  out : ∃ s r v sl, Sim s r ∧ s.most = 12 ∧ s.used = u ∧ AI w.heap.size W g v s ∧ sl.length = 16 ∧ (∀ j : Nat, j < 16 → sl.getD j false = s.has (j : Int)) ∧ W.heap[gs]? = some (.cells (cellsB sl) 51 (0, 0)) ∧ W.heap[w.heap.size]? = some (.cells #[.bool false] 4 (0, 0)) ∧ W.heap[D]? = some (.deferred (some [])) ∧ Below w.heap.size w W
theorem TInv.keep {gs D : Nat} {u : Int} (h : TInv w gs D g W u) (hb : Below W.heap.size W W') : TInv w gs D g W' u := by
  obtain ⟨s, r, v, sl, h1, h2, h3, h4, h5, h6, h7, h8, h9, h10⟩ := h.out
  exact ⟨s, r, v, sl, h1, h2, h3, h4.keep hb, h5, h6, blk_below h7 hb, blk_below h8 hb, blk_below h9 hb, h10.trans (hb.mono h10.size)⟩
theorem objOf (h : AI B W g v s) (ho : Only g v.ownBlock W W') {k : Nat} {x : Option (List Deferred)} (hb : W.heap[k]? = some (.deferred x)) : W'.heap[k]? = some (.deferred x) :=
  (ho.block k (blk_lt hb) (fun e => by subst e; have h7 := h.blk; rw [hb] at h7; cases h7) (fun e => by obtain ⟨cells, hc⟩ := R_typed h.row k e.symm; rw [hb] at hc; cases hc)).trans hb
set_option maxHeartbeats 32000000 in
set_option maxRecDepth 100000 in
theorem once_calls (A0 : Option Addr) (n c0 : Nat) (l : List (Int × Int × Int)) (w : World) (hC : kd46.C w A0 n l) (hn : n ≤ c0) :
    Calls Try.prog 5 #[.slice A0 n c0] w fun e w' => e = .returned (.bool true) ∧ Below w.heap.size w w' := by
  have HC := Aside0.mk hC
  have hnn := @ne_nil
  clear hC
  refine (callsIn_wide (n := 7)).1 ?_
  refine callsIn_of_wp_marks Try.func5 rfl trivial ?_ rfl
  simp only [Try.ntmps5, List.size_toArray, List.length_cons, List.length_nil, Nat.reduceAdd, Nat.reduceSub, Array.replicate_succ, Array.replicate_zero, List.push_toArray, List.append_toArray, List.nil_append, List.cons_append]
  gi_wp2_with (first
    | (refine ⟨trivial, ?_⟩; gi_at_call 22; refine (callsIn_wide.2 (played_calls A0 n c0 l _ (Kd.C_alloc HC.out _) hn)).mono ?_; rintro e w1 ⟨g, X, s, r, v, rfl, hsim, hmost, hA, hR, hb⟩; have HSIM := Aside0.mk hsim; have HM := Aside0.mk hmost; have HA := Aside0.mk hA; have HR := Aside0.mk hR; have HB := Aside0.mk hb; have HXS := Aside0.mk hR.sz; have HXO := Aside0.mk hR.one; have HN2 := Aside0.mk (heap_alloc_new w1 (.cells Try.zeroCells42 42)); clear hsim hmost hA hR hb)
    | (refine in_store rfl (x := .tmp 4) (y := .tmp 18) rfl (g := w1.heap.size) (cells := X) rfl rfl HN2.out (by rw [HXS.out]; exact info42) (by rw [HXS.out]; exact zero42) HXO.out ?_)
    | (refine ⟨trivial, ?_⟩; gi_at_call 23; refine (all_calls (g := g) _).mono ?_; rintro e w2 ⟨rfl, rfl⟩))
  obtain ⟨WL, hWL⟩ : ∃ WL, ((((w1.alloc (.cells Try.zeroCells42 42)).setRow w1.heap.size X).alloc (.cells #[.bool false, .bool false, .bool false, .bool false, .bool false, .bool false, .bool false, .bool false, .bool false, .bool false, .bool false, .bool false, .bool false, .bool false, .bool false, .bool false] 51)).alloc (.cells #[.pointer (some ⟨g, 0, none⟩)] 35)) = WL := ⟨_, rfl⟩
  have hA1 : AI w.heap.size w1 g v s := atLower HA.out (by simp)
  have hb1 : Below w.heap.size w w1 := ((Below.refl w.heap.size w).alloc (Nat.le_refl _) (.cells #[.bool false] 4)).trans (HB.out.mono (by simp))
  have hp0 : w1.heap[w.heap.size]? = some (.cells #[.bool false] 4 (0, 0)) := blk_below (heap_alloc_new w (.cells #[.bool false] 4)) HB.out
  have hA2 := rowset (hA1.keep ((Below.refl _ w1).alloc (Nat.le_refl _) (.cells Try.zeroCells42 42))) HN2.out X
  have hp2 := blk_row (blk_alloc hp0 (.cells Try.zeroCells42 42)) (g2 := w1.heap.size) (by have := blk_lt hp0; omega) X
  have hb2 := (hb1.alloc hb1.size (.cells Try.zeroCells42 42)).grown (setRow_grown _ w1.heap.size X) (by have := hb1.size; simp; omega) (fun k e => by injection e with e; have := hb1.size; omega)
  have hsz2 : ((w1.alloc (.cells Try.zeroCells42 42)).setRow w1.heap.size X).heap.size = w1.heap.size + 1 := by simp [World.setRow]
  obtain ⟨W2, hW2⟩ : ∃ W2, ((w1.alloc (.cells Try.zeroCells42 42)).setRow w1.heap.size X) = W2 := ⟨_, rfl⟩
  rw [hW2] at hA2 hp2 hb2 hsz2 hWL
  have hs3 := heap_alloc_new W2 (.cells (cellsB (List.replicate 16 false)) 51)
  have hA3 := hA2.keep ((Below.refl _ W2).alloc (Nat.le_refl _) (.cells (cellsB (List.replicate 16 false)) 51))
  have hb3 := hb2.alloc hb2.size (.cells (cellsB (List.replicate 16 false)) 51)
  have hp3 := blk_alloc hp2 (.cells (cellsB (List.replicate 16 false)) 51)
  have hc16 : cellsB (List.replicate 16 false) = #[.bool false, .bool false, .bool false, .bool false, .bool false, .bool false, .bool false, .bool false, .bool false, .bool false, .bool false, .bool false, .bool false, .bool false, .bool false, .bool false] := rfl
  obtain ⟨W3, hW3⟩ : ∃ W3, W2.alloc (.cells (cellsB (List.replicate 16 false)) 51) = W3 := ⟨_, rfl⟩
  have hsz3 : W3.heap.size = w1.heap.size + 1 + 1 := by rw [← hW3, World.size_alloc, hsz2]
  rw [hsz2] at hs3
  rw [← hc16, hW3] at hWL
  rw [hW3] at hs3 hA3 hb3 hp3
  have hs4 := blk_alloc hs3 (.cells #[.pointer (some ⟨g, 0, none⟩)] 35)
  have hA4 := hA3.keep ((Below.refl _ W3).alloc (Nat.le_refl _) (.cells #[.pointer (some ⟨g, 0, none⟩)] 35))
  have hb4 := hb3.alloc hb3.size (.cells #[.pointer (some ⟨g, 0, none⟩)] 35)
  have hp4 := blk_alloc hp3 (.cells #[.pointer (some ⟨g, 0, none⟩)] 35)
  have hq4 := heap_alloc_new W3 (.cells #[.pointer (some ⟨g, 0, none⟩)] 35)
  have hsz4 : WL.heap.size = w1.heap.size + 1 + 1 + 1 := by rw [← hWL, World.size_alloc, hsz3]
  rw [hsz3] at hq4
  rw [hWL] at hs4 hA4 hb4 hp4 hq4
  have hbox : WL.cell? ⟨w1.heap.size + 1 + 1, 0, none⟩ = some (.pointer (some ⟨g, 0, none⟩)) := (blk_cell hq4 0).trans rfl
  have hgoal : ((((w1.alloc (.cells Try.zeroCells42 42)).setRow w1.heap.size X).alloc (.cells #[.bool false, .bool false, .bool false, .bool false, .bool false, .bool false, .bool false, .bool false, .bool false, .bool false, .bool false, .bool false, .bool false, .bool false, .bool false, .bool false] 51)).alloc (.cells #[.pointer (some ⟨g, 0, none⟩)] 35)) = WL := by rw [hW2, ← hc16, hW3]; exact hWL
  rw [hgoal]
  have HA4 := Aside0.mk hA4
  have HBW := Aside0.mk hb4.size
  have hcl := HSIM.out.bd.c
  have hlen12 : s.cells.length ≤ 12 := by have := HSIM.out.le; have := HM.out; omega
  have HL12 := Aside0.mk hlen12
  have hI0 : OI w WL g v (w1.heap.size + 1 + 1) (w1.heap.size + 1) [] WL := ⟨_, rfl, List.length_replicate, hs4, hp4, hb4, KA.refl _ _ _ _⟩
  have hgs : w.heap.size < w1.heap.size := blk_lt hp0
  have hgs1 : g ≠ w1.heap.size + 1 := fun e => by subst e; exact blk_ne hA4.blk hs4 (by decide) rfl
  have hgs2 : ∀ k, v.ownBlock = some k → k ≠ w1.heap.size + 1 := fun k hk e => by subst e; obtain ⟨cells, hc⟩ := R_typed hA4.row _ hk; exact blk_ne hc hs4 (by decide) rfl
  have HGS := Aside0.mk hgs
  have HGS1 := Aside0.mk hgs1
  have HGS2 := Aside0.mk hgs2
  have HSZ4 := Aside0.mk hsz4
  clear hgoal hWL hW3 hW2 hs4 hb4 hp4 hq4 hs3 hA3 hb3 hp3 hA2 hp2 hb2 hA1 hb1 hp0 hc16 hsz2 hsz3 hlen12 hgs hgs1 hgs2
  refine wpIn_rangeFunc_ownF rfl (by omega) (gf := 66) (lb := #[.pointer (some ⟨w1.heap.size + 1 + 1, 0, none⟩)]) rfl trivial (enters_of Try.func66 (by kernel_rfl) rfl)
    (all_stops WL hA4 hcl (w1.heap.size + 1 + 1) hbox (by omega)) KA.trans (fun W l o o' hl _ _ _ => KA.put hA4.lt (by omega) hA4.rlt W l o' hl) (Below.refl _ _) (fun _ => rfl)
    (OI w WL g v (w1.heap.size + 1 + 1) (w1.heap.size + 1)) (fun c pre _ => stO pre = none)
    ?own (fun _ _ _ _ _ hs _ _ => hs) hI0 (fun x => { tmps := #[.slice A0 n c0, undef, .pointer (some ⟨w.heap.size, 0, none⟩), .pointer (some ⟨g, 0, none⟩), .pointer (some ⟨w1.heap.size, 0, none⟩), .bool true, .pointer (some ⟨w1.heap.size + 1, 0, none⟩), .func (.func 66) #[] #[.pointer (some ⟨w1.heap.size + 1 + 1, 0, none⟩)], .int .i64 x.1, undef, undef, undef, undef, undef, .tuple #[.pointer (some ⟨g, 0, none⟩), .agg X, .bool true], .slice A0 n c0, .tuple #[.pointer (some ⟨g, 0, none⟩), .agg X, .bool true], .pointer (some ⟨g, 0, none⟩), .agg X, .bool true, .bool true, .bool false, .agg #[.bool false, .bool false, .bool false, .bool false, .bool false, .bool false, .bool false, .bool false, .bool false, .bool false, .bool false, .bool false, .bool false, .bool false, .bool false, .bool false], .pointer (some ⟨g, 0, none⟩), .func (.func 66) #[] #[.pointer (some ⟨w1.heap.size + 1 + 1, 0, none⟩)], .func (.func 66) #[] #[.pointer (some ⟨w1.heap.size + 1 + 1, 0, none⟩)], .bool false, .func (.func 66) #[] #[.pointer (some ⟨w1.heap.size + 1 + 1, 0, none⟩)], .int .i64 x.1, .int .i64 x.2, undef, undef, undef, undef, undef, undef, undef, undef, undef, undef, undef, undef, undef, undef, undef, undef, undef, undef, undef, undef, undef, undef, undef, undef, undef, undef, undef, undef, undef, undef, undef, undef, undef, undef, undef, undef, undef, undef, undef, undef, undef, undef, undef, undef, undef, undef, undef, undef, undef, undef, undef, undef, undef, undef, undef, undef], defers := [] }) ?assign ?body ?done ?stop
  case own =>
    intro pre A C row hs hg hr
    obtain ⟨sl, h1, h2, h3, h4, h5, h6⟩ := hs.out
    exact ⟨sl, h1, h2, blkFrom h3 hg hr, blkFrom h4 hg hr, h5.grown hg h5.size (fun k e => by have := (hr k e).1; have := HBW.out; omega), KA.from h6 (Nat.le_refl _) HA4.out.lt (by have := HSZ4.out; omega) HA4.out.rlt hg hr⟩
  case assign =>
    intro l x W K hK
    dsimp only [encA]
    gi_wp2
    exact hK
  case body =>
    rintro l pre ⟨x1, x2⟩ W hI hlt
    obtain ⟨sl, h1, h2, h3, h4, h5, h6⟩ := hI.out
    have H1 := Aside0.mk h1
    have H2 := Aside0.mk h2
    have H3 := Aside0.mk h3
    have H4 := Aside0.mk h4
    have H5 := Aside0.mk h5
    have H6 := Aside0.mk h6
    have hc0 := (blk_cell h4 0).trans rfl
    have hf0 := blk_frozen h4 0
    have hbad : ¬ (1 ≤ x1 ∧ x1 ≤ 12 ∧ sl.getD x1.toNat false = false) → stO (pre ++ [(x1, x2)]) = none := fun hb => by
      rw [stO_snoc, H1.out]
      show (if 1 ≤ x1 ∧ x1 ≤ 12 ∧ sl.getD x1.toNat false = false then some (sl.set x1.toNat true) else none) = none
      rw [if_neg hb]
    have HBAD := Aside0.mk hbad
    by_cases g1 : x1 < 1
    · clear h1 h2 h3 h4 h5 h6 hI hbad
      gi_wp2
      exact ⟨KeepsOthers.setCell _ _ _, HBAD.out (by omega)⟩
    by_cases g2 : 12 < x1
    · have g3 : 1 ≤ x1 := by omega
      clear h1 h2 h3 h4 h5 h6 hI hbad
      gi_wp2
      exact ⟨KeepsOthers.setCell _ _ _, HBAD.out (by omega)⟩
    obtain ⟨j, rfl⟩ := Int.eq_ofNat_of_zero_le (show 0 ≤ x1 by omega)
    have g3 : (1 : Int) ≤ (j : Int) := by omega
    have g4 : (j : Int) ≤ 12 := by omega
    have g5 : (j : Int) < 16 := by omega
    have g6 : (0 : Int) ≤ (j : Int) := by omega
    have hcj := (blk_cell h3 j).trans (cellsB_get sl j (by omega))
    have hfj := blk_frozen h3 j
    rw [Int.toNat_natCast] at hbad
    have HBAD2 := Aside0.mk hbad
    have HG4 := Aside0.mk g4
    cases hb : sl.getD j false
    · rw [hb] at hcj
      have hgood : stO (pre ++ [((j : Int), x2)]) = some (sl.set j true) := by
        rw [stO_snoc, H1.out]
        show (if 1 ≤ (j : Int) ∧ (j : Int) ≤ 12 ∧ sl.getD ((j : Int)).toNat false = false then some (sl.set ((j : Int)).toNat true) else none) = _
        rw [Int.toNat_natCast, if_pos ⟨g3, g4, hb⟩]
      have HGOOD := Aside0.mk hgood
      have hset := blk_set H3.out j (.bool true)
      rw [cellsB_set] at hset
      have HSET := Aside0.mk hset
      clear h1 h2 h3 h4 h5 h6 hI hbad hb hgood hset HBAD
      gi_wp2
      have hz := HGS.out
      refine ⟨KeepsOthers.setCell _ _ _, (KA.refl _ _ _ _).setO _ _ HGS1.out (by simp) HGS2.out, ⟨sl.set j true, HGOOD.out, by rw [List.length_set]; exact H2.out, HSET.out, blk_far H4.out (p := ⟨w1.heap.size + 1, j, none⟩) (by show w.heap.size ≠ w1.heap.size + 1; omega) _, H5.out.setCell (p := ⟨w1.heap.size + 1, j, none⟩) (by show w.heap.size ≤ w1.heap.size + 1; omega) _, H6.out.setO _ _ HGS1.out (by simp) HGS2.out⟩⟩
    · rw [hb] at hcj
      have HB9 := Aside0.mk (HBAD2.out (by rw [hb]; simp))
      clear h1 h2 h3 h4 h5 h6 hI hbad hb HBAD
      gi_wp2
      exact ⟨KeepsOthers.setCell _ _ _, HB9.out⟩
  case stop =>
    rintro D c pre W hD ⟨k, hk, rfl⟩ hbad hK
    obtain ⟨sl, h1, _⟩ := stO_seq s HL12.out k hk
    rw [h1] at hbad
    cases hbad
  case done =>
    rintro D ys W hD rfl hI hK
    obtain ⟨sl0, k1, k2, k3⟩ := stO_seq s HL12.out s.cells.length (Nat.le_refl _)
    obtain ⟨sl, h1, h2, h3, h4, h5, h6⟩ := hI.out
    rw [k1] at h1
    obtain rfl := Option.some.inj h1
    have hseen : ∀ j : Nat, j < 16 → sl0.getD j false = s.has (j : Int) := by
      intro j hj
      rw [k3 j hj]
      unfold St.has
      by_cases h1 : 1 ≤ j
      · by_cases h2 : j ≤ s.cells.length
        · have e : ((j : Int) - 1).toNat = j - 1 := by omega
          rw [decide_eq_true h1, decide_eq_true h2, decide_eq_true (show (1 : Int) ≤ (j : Int) by omega), decide_eq_true (show (j : Int) ≤ (s.cells.length : Int) by omega), e, List.getElem?_eq_getElem (by omega), List.getD_eq_getElem?_getD, List.getElem?_eq_getElem (by omega)]
          rfl
        · rw [decide_eq_false h2, decide_eq_false (show ¬ (j : Int) ≤ (s.cells.length : Int) by omega)]
          simp
      · rw [decide_eq_false h1, decide_eq_false (show ¬ (1 : Int) ≤ (j : Int) by omega)]
        rfl
    have hAW : AI w.heap.size W g v s := h6.at HA4.out
    have hbd := HSIM.out.bd
    have HLEFT := Aside0.mk (left_int W hAW hbd.u0 hbd.u1 hbd.m)
    have hmost := HM.out
    rw [hmost] at HLEFT
    have HI2 : TInv w (w1.heap.size + 1) D g W s.used := ⟨s, r, v, sl0, HSIM.out, HM.out, rfl, hAW, h2, hseen, h3, h4, hK, h5⟩
    have HI2 := Aside0.mk HI2
    have hu0 := hbd.u0
    have hu1 := hbd.u1
    rw [hmost] at hu1
    obtain ⟨u, hu⟩ := Int.eq_ofNat_of_zero_le hu0
    rw [hu] at HI2 HLEFT hu1
    obtain ⟨q, hq⟩ : ∃ q : Nat, (12 : Int) - (u : Int) = (q : Int) := ⟨12 - u, by omega⟩
    rw [hq] at HLEFT
    have hqu : u + q = 12 := by omega
    clear hI k1 k2 k3 h1 h2 h3 h4 h5 h6 hseen hAW hbd hmost hu hu0 hu1 hq hK
    gi_wp2_with (first
      | (refine ⟨trivial, ?_⟩; gi_at_call 19; refine (callsIn_wide.2 HLEFT.out).mono ?_; rintro e w2 ⟨rfl, hb2⟩; have HI3 := HI2.out.keep hb2; clear hb2))
    gi_loopw [9] (fun i wr => ∃ k c : Nat, i = .int .i64 (k : Int) ∧ c + k = 12 ∧ TInv w (w1.heap.size + 1) D g wr (c : Int)) (fun i _ => (intOf i).toNat)
    case atStart => exact ⟨q, u, rfl, hqu, HI3⟩
    case round =>
      obtain ⟨k, c, rfl, hkc, HK⟩ := hrel
      clear HI3
      obtain ⟨sk, rk, vk, slk, hsim, hm, huc, hA, hl, hsn, hgs, hp0, hD2, hb⟩ := HK.out
      by_cases hk0 : 0 < k
      · obtain ⟨s', r', i, t1, t2, t3, t4, t5, t6, t7, t8⟩ := hsim.take1 (by rw [hm, huc]; omega) 3
        have HTK := Aside0.mk (take_int wr hA 3 i s' t1 hsim.bd.u0 (by rw [hm, huc]; omega) hsim.bd.m)
        obtain ⟨j, rfl⟩ := Int.eq_ofNat_of_zero_le (show 0 ≤ i by omega)
        rw [hm] at t6
        have HH := Aside0.mk (fun q => has_take hsim 3 (j : Int) t1 q)
        have hsj : slk.getD j false = false := by rw [hsn j (by omega)]; exact t4
        have HSIM2 := Aside0.mk t3
        have HU2 := Aside0.mk (show s'.used = ((c + 1 : Nat) : Int) by rw [t7, huc]; omega)
        have HM2 := Aside0.mk (t8.trans hm)
        have HA2 := Aside0.mk hA
        have HSN := Aside0.mk hsn
        have HL2 := Aside0.mk hl
        have HGS3 := Aside0.mk hgs
        have HP3 := Aside0.mk hp0
        have HD3 := Aside0.mk hD2
        have HB3 := Aside0.mk hb
        have hj1 : (1 : Int) ≤ (j : Int) := t5
        have hj2 : (j : Int) ≤ 12 := t6
        have hj3 : (j : Int) < 16 := by omega
        have hj4 : (0 : Int) ≤ (j : Int) := by omega
        have hj5 : j < 16 := by omega
        have HJ5 := Aside0.mk hj5
        have hkk : k < 13 := by omega
        clear t1 t2 t3 t4 t7 t8 hsim hm huc hA hsn hgs hp0 hD2 hb HK hl
        gi_wp2_with (first
          | (refine ⟨trivial, ?_⟩; gi_at_call 24; refine (callsIn_wide.2 HTK.out).mono ?_; rintro e w2 ⟨rfl, hd⟩; obtain ⟨v2, hA3, hO3, hS3⟩ := hd.out; have hg3 := blkOf HA2.out hO3 HGS3.out (by decide) (by decide); have hcj := (blk_cell hg3 j).trans (cellsB_get slk j (by rw [HL2.out]; exact HJ5.out)); rw [hsj] at hcj; have hfj := blk_frozen hg3 j; have hset := blk_set hg3 j (.bool true); rw [cellsB_set] at hset; have HSET := Aside0.mk hset; have HA3 := Aside0.mk hA3; have HP4 := Aside0.mk (blkOf HA2.out hO3 HP3.out (by decide) (by decide)); have HG3 := Aside0.mk hg3; have HB4 := Aside0.mk (HB3.out.trans (HA2.out.below hO3 (Nat.le_refl _) HB3.out.size)); have HD4 := Aside0.mk (objOf HA2.out hO3 HD3.out); clear hd hA3 hO3 hS3 hg3 hset))
        go_roundw
        case rel =>
          have hz := HGS.out
          refine ⟨k - 1, c + 1, by congr 1; omega, by omega, ⟨s', r', v2, slk.set j true, HSIM2.out, HM2.out, HU2.out, ?_, by rw [List.length_set]; exact HL2.out, fun q hq => ?_, HSET.out, blk_far HP4.out (p := ⟨w1.heap.size + 1, j, none⟩) (by show w.heap.size ≠ w1.heap.size + 1; omega) _, ?_, HB4.out.setCell (p := ⟨w1.heap.size + 1, j, none⟩) (by show w.heap.size ≤ w1.heap.size + 1; omega) _⟩⟩
          · exact HA3.out.grown (set_grown _ _ _ _) (fun e => by injection e with e; have h7 := HA3.out.blk; rw [e] at h7; exact blk_ne h7 HG3.out (by decide) rfl) (fun k hk e => by injection e with e; obtain ⟨cells, hc⟩ := R_typed HA3.out.row k hk; rw [e] at hc; exact blk_ne hc HG3.out (by decide) rfl)
          · rw [bset _ _ _ _ (by rw [HL2.out]; exact HJ5.out), HH.out q]
            by_cases e : j = q
            · subst e; rw [if_pos rfl, decide_eq_true rfl]; rfl
            · rw [if_neg e, decide_eq_false (by omega), HSN.out q hq]; rfl
          · exact (Below.heap_setCell _ _ _ _ (fun e => by have h7 := HD4.out; rw [e] at h7; rw [HG3.out] at h7; cases h7)).trans HD4.out
        case measure => simp [intOf]; omega
      · obtain rfl : k = 0 := by omega
        obtain rfl : c = 12 := by omega
        have hlv := @live_calls
        have HLV := Aside0.mk hlv
        have HFULL := Aside0.mk (take_full_int wr hA 3 hsim.bd.u0 (by rw [hm, huc]; rfl) hsim.bd.m)
        have HA2 := Aside0.mk hA
        have HP3 := Aside0.mk hp0
        have HD3 := Aside0.mk hD2
        have HB3 := Aside0.mk hb
        have HUC := Aside0.mk huc
        clear hsim hm huc hA hsn hgs hp0 hD2 hb HK hl hlv hk0 hkc
        gi_wp2_with (first
          | (refine ⟨trivial, ?_⟩; gi_at_call 24; refine (callsIn_wide.2 HFULL.out).mono ?_; rintro e w2 ⟨rfl, hb2⟩; have HB4 := Aside0.mk hb2; clear hb2)
          | (refine ⟨trivial, ?_⟩; gi_at_call 16; refine (callsIn_wide.2 (HLV.out w2)).mono ?_; rintro e w3 ⟨rfl, hb3⟩; have HB5 := Aside0.mk (HB4.out.trans (hb3.mono HB4.out.size)); have HLEN := Aside0.mk (len_int w3 (HA2.out.keep HB5.out)); rw [HUC.out] at HLEN; have hp5 := blk_below HP3.out HB5.out; have c5 := (blk_cell hp5 0).trans rfl; have f5 := blk_frozen hp5 0; have HP5 := Aside0.mk hp5; clear hb3 hp5)
          | (refine ⟨trivial, ?_⟩; gi_at_call 25; refine (callsIn_wide.2 HLEN.out).mono ?_; rintro e w4 ⟨rfl, rfl⟩))
        have hz := HGS.out
        have hDw : w.heap.size < D := by have := HSZ4.out; omega
        have hKD : (w3.setCell ⟨w.heap.size, 0, none⟩ (.bool true)).heap[D]? = some (.deferred (some [])) := (Below.heap_setCell w3 ⟨w.heap.size, 0, none⟩ (.bool true) D (by show D ≠ w.heap.size; omega)).trans (blk_below HD3.out HB5.out)
        have hP9 : (w3.setCell ⟨w.heap.size, 0, none⟩ (.bool true)).heap[w.heap.size]? = some (.cells #[.bool true] 4 (0, 0)) := blk_put HP5.out 0 (.bool true) rfl
        have hP10 : ((w3.setCell ⟨w.heap.size, 0, none⟩ (.bool true)).putObj D (.deferred none)).heap[w.heap.size]? = some (.cells #[.bool true] 4 (0, 0)) := (World.putObj_heap_other (by omega)).trans hP9
        have hB9 : Below w.heap.size w (w3.setCell ⟨w.heap.size, 0, none⟩ (.bool true)) := (HB3.out.trans (HB5.out.mono HB3.out.size)).setCell (p := ⟨w.heap.size, 0, none⟩) (Nat.le_refl _) _
        refine ⟨by simp, .inl ⟨_, _, rfl, run_takeDeferred hKD, ?_⟩⟩
        exact ⟨_, results_bool rfl rfl ((blk_cell hP10 0).trans rfl), rfl, hB9.trans (belowK_b (w := w) (Nat.le_refl _) _ D _ _ (by omega) hKD rfl rfl)⟩
end Go.Proofs.Ytpfikmchimlneaa.Ar
