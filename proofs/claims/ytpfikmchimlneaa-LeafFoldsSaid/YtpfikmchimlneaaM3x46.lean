-- written by a program of this session (wip/myprint.py), over the kit's printer and the session's own contracts
import Derived.Test.YtpfikmchimlneaaM3x0
import Derived.Test.YtpfikmchimlneaaM3P0
namespace Go.Proofs.Ytpfikmchimlneaa.M3
open Go.RowKit Go.Proofs.YtpfikmchimlneaaW.PrintWords Go.Proofs.YtpfikmchimlneaaW.PrintLast Go.Proofs.YtpfikmchimlneaaW.PrintMore Go.Proofs.YtpfikmchimlneaaW.Mine
attribute [local go_sem] max2_int min2_int max_two min_two max_three min_three max_four min_four max2_str min2_str binOp_gtr_str binOp_leq_str binOp_geq_str   -- for this text's walks alone
set_option linter.unusedVariables false
set_option linter.unusedSimpArgs false

/-! ### api_Entry_97: function 97 -/
-- over api_Entry_95
open Go.Proofs.YtpfikmchimlneaaW.Nest Go.Proofs.YtpfikmchimlneaaW.Sl
theorem api_Entry_97.fin {w W : World} {base g : Nat} {v : Value} {hs : List Hd} {xs : List (List S85)} (hI : Inn k85 85 w base hs xs) (hheap : ∃ cur, w.heap[g]? = some (.cells cur 74 (0, 0))) (hbg : base ≤ g) (hr : hdk.R 74 W base (fun _ => True) v hs) (hg : w.grownBy W (some g)) : NR k85 85 74 W base v xs ∧ Below base w W := by
  obtain ⟨cur, hheap⟩ := hheap
  exact ⟨⟨_, hr, hI.grown api_Entry_95.ne hheap hg⟩, (Below.refl base w).grown hg (Nat.le_of_lt (Nat.lt_of_le_of_lt hbg (blk_lt hheap))) (fun k hk => by cases hk; exact hbg)⟩
theorem api_Entry_97.mids {hs : List Hd} {ys : List Hd} {n i j : Nat} (hn : hs.length = n) (hi : i ≤ n) (hj : j ≤ n) (k : Nat) (hk : i + ys.length ≤ k) (hkn : k ≤ n) : ((hs.map hv).take k ++ (hs.drop j).map hv).take i ++ ys.map hv ++ ((hs.map hv).take k ++ (hs.drop j).map hv).drop (i + ys.length) = (hs.take i ++ ys).map hv ++ ((hs.map hv).take k ++ (hs.drop j).map hv).drop (i + ys.length) := by
  have h1 : ((hs.map hv).take k).length = k := by rw [List.length_take, List.length_map]; omega
  rw [List.take_append_of_le_length (by rw [h1]; omega), List.take_take, Nat.min_eq_left (by omega)]
  simp only [List.map_append, List.map_take]
theorem api_Entry_97.src {w : World} {bx : Nat} {ys : List Value} {t : TypeId} (hbx : w.heap[bx]? = some (.cells ys.toArray t (0, 0))) : ∀ (q : Nat) (u : Value), ys[q]? = some u → w.cell? ((⟨bx, 0, none⟩ : Addr).add q) = some u := by
  intro q u hu
  rw [Addr.add_lit, Nat.zero_add]
  simp only [World.cell?, hbx]
  simpa using hu
set_option maxHeartbeats 8000000 in
set_option maxRecDepth 100000 in
/-- one element in the place of the last two -/
theorem api_Entry_97.end1 {w : World} {base g n c : Nat} {xs : List (List S85)} (h : NR k85 85 74 w base (.slice (some ⟨g, 0, none⟩) n c) xs) (i j : Nat) (hj : j = i + 2) (hjn : j = n) (hn : n < 1000000)
    (a : Hd) (ya : List S85) (ha : Kd.R k85 85 w base (fun _ => True) (hv a) ya) (bx : Nat) (hbx : w.heap[bx]? = some (.cells #[hv a] 74 (0, 0))) (hne : bx ≠ g) :
    Calls Try.prog 97 #[.slice (some ⟨g, 0, none⟩) n c, .int .i64 (i : Int), .int .i64 (j : Int), .slice (some ⟨bx, 0, none⟩) 1 1] w fun e w' => ∃ v', e = .returned v' ∧ NR k85 85 74 w' base v' (xs.take i ++ [ya]) ∧ Below base w w' := by
  obtain ⟨hs, hR, hI⟩ := h
  have hnl := (R_holds hR).1
  have hnc := (R_holds hR).2.1
  have hcm := (R_holds hR).2.2.1
  have hbg := (R_holds hR).2.2.2.2.1
  have hI0 := hI.1
  have hrw := Rw.of hR
  have hheap := hrw.heap
  obtain ⟨i0, hi0, _, hz1, _⟩ := info_parts api_Entry_95.info
  have hlh : (hs.map hv).length = n := by rw [List.length_map]; exact hnl.symm
  unfold maxLen at hcm
  have d1 : ((i : Int) == (j : Int)) = false := beq_eq_false_iff_ne.2 (by omega)
  have d3 : ¬ ((i : Int) = (j : Int)) := by omega
  have p1 : (i : Int) ≤ (j : Int) := by omega
  have p2 : (j : Int) ≤ (n : Int) := by omega
  have p3 : i ≤ j := by omega
  have p4 : j ≤ n := by omega
  have q1 : i ≤ n := by omega
  have q2 : (i : Int) ≤ (n : Int) := by omega
  have q3 : i ≤ c := by omega
  have q4 : (i : Int) ≤ (c : Int) := by omega
  have d2 : ((j : Int) == (n : Int)) = true := by rw [beq_iff_eq]; omega
  have d4 : (j : Int) = (n : Int) := by omega
  have hp := Rw.push (P := Try.prog) 59 59 Try.underlying59 hi0 hz1 hrw i (by rw [hlh]; omega) [hv a] ⟨bx, 0, none⟩ 1 (api_Entry_97.src hbx) (fun u hu => by obtain rfl := List.mem_singleton.1 hu; exact hv_one a) (by simp; omega)
  have HP := Aside0.mk hp
  have HC := Aside0.mk (show ∀ W : World, Rw 74 W base g c ((hs.map hv).take i ++ [hv a] ++ (hs.map hv).drop (i + [hv a].length)) → ∃ v' w', (Builtin.clear_ #[59] 0 #[.slice (some ⟨g, i + 1, none⟩) (n - (i + 1)) (c - (i + 1))]).run Try.prog W = .ok v' w' ∧ (Rw 74 w' base g c ((hs.take i ++ [a]).map hv) ∧ W.grownBy w' (some g)) from fun W hw => by
    have := Rw.clear (P := Try.prog) 59 0 (.slice none 0 0) Try.underlying59 Try.zeroValue74 rfl rfl hw (i + 1) (n - (i + 1)) (c - (i + 1)) (by simp only [List.length_append, List.length_take, hlh, List.length_cons, List.length_nil]; omega) (by omega) (by omega)
    have he : ((hs.map hv).take i ++ [hv a] ++ (hs.map hv).drop (i + [hv a].length)).take (i + 1) = (hs.take i ++ [a]).map hv := by
      rw [List.take_append_of_le_length (by simp only [List.length_append, List.length_take, hlh, List.length_cons, List.length_nil]; omega), List.take_of_length_le (by simp only [List.length_append, List.length_take, hlh, List.length_cons, List.length_nil]; omega)]
      simp
    rw [he] at this
    exact this)
  have hl2 : (hs.take i ++ [a]).length = i + 1 := by simp only [List.length_append, List.length_take, List.length_cons, List.length_nil, ← hnl]; omega
  have HF := Aside0.mk (show ∀ W : World, Rw 74 W base g c ((hs.take i ++ [a]).map hv) → w.grownBy W (some g) → ∃ v', Ending.returned (.slice (some ⟨g, 0, none⟩) (i + 1) c) = .returned v' ∧ NR k85 85 74 W base v' (xs.take i ++ [ya]) ∧ Below base w W from fun W hw hg => by
    have hr := hw.to
    rw [hl2] at hr
    exact ⟨_, rfl, api_Entry_97.fin ((hI.take i).append (Inn.one ha)) hheap hbg hr hg⟩)
  have e1 : decide ((i : Int) + 1 < (n : Int)) = true := decide_eq_true (by omega)
  have e2 : decide (i + 1 < n) = true := decide_eq_true (by omega)
  have e3 : (i : Int) + 1 ≤ (n : Int) := by omega
  have e4 : i + 1 ≤ n := by omega
  have e5 : ¬ (c = i + 1) := by omega
  clear hR hI ha hbx hne hj hjn hnl hI0 hrw hheap hi0 hz1 hp hlh hl2 hbg
  go_enter Try.func97, Try.ntmps97
  go_wp2_with (at_builtin; refine Go.Proofs.YtpfikmchimlneaaW.Sl.wpList_append_ex _ rfl (.tmp 32) (.tmp 33) 59 59 rfl (.slice (some ⟨g, 0, none⟩) i c) (.slice (some ⟨bx, 0, none⟩) 1 1) rfl rfl (by exact HP.out) ?_; rintro v1 W1 ⟨rfl, hR1, hG1⟩; obtain ⟨vc, W2, hrun, hR2, hG2⟩ := HC.out W1 hR1; have HR2 := Aside0.mk hR2; have HG2 := Aside0.mk (World.grownBy.trans hG1 hG2); clear hR1 hG1 hR2 hG2 HP HC)
  go_ret
  exact HF.out _ HR2.out HG2.out
set_option maxHeartbeats 8000000 in
set_option maxRecDepth 100000 in
/-- two elements in the place of the last one -/
theorem api_Entry_97.end2 {w : World} {base g n c : Nat} {xs : List (List S85)} (h : NR k85 85 74 w base (.slice (some ⟨g, 0, none⟩) n c) xs) (i j : Nat) (hj : j = i + 1) (hjn : j = n) (hn : n < 1000000)
    (a b : Hd) (ya yb : List S85) (ha : Kd.R k85 85 w base (fun _ => True) (hv a) ya) (hb : Kd.R k85 85 w base (fun _ => True) (hv b) yb) (bx : Nat) (hbx : w.heap[bx]? = some (.cells #[hv a, hv b] 74 (0, 0))) :
    Calls Try.prog 97 #[.slice (some ⟨g, 0, none⟩) n c, .int .i64 (i : Int), .int .i64 (j : Int), .slice (some ⟨bx, 0, none⟩) 2 2] w fun e w' => ∃ v', e = .returned v' ∧ NR k85 85 74 w' base v' (xs.take i ++ [ya, yb]) ∧ Below base w w' := by
  obtain ⟨hs, hR, hI⟩ := h
  have hnl := (R_holds hR).1
  have hnc := (R_holds hR).2.1
  have hcm := (R_holds hR).2.2.1
  have hbg := (R_holds hR).2.2.2.2.1
  have hI0 := hI.1
  have hrw := Rw.of hR
  have hheap := hrw.heap
  obtain ⟨i0, hi0, _, hz1, _⟩ := info_parts api_Entry_95.info
  have hlh : (hs.map hv).length = n := by rw [List.length_map]; exact hnl.symm
  unfold maxLen at hcm
  have d1 : ((i : Int) == (j : Int)) = false := beq_eq_false_iff_ne.2 (by omega)
  have d3 : ¬ ((i : Int) = (j : Int)) := by omega
  have p1 : (i : Int) ≤ (j : Int) := by omega
  have p2 : (j : Int) ≤ (n : Int) := by omega
  have p3 : i ≤ j := by omega
  have p4 : j ≤ n := by omega
  have q1 : i ≤ n := by omega
  have q2 : (i : Int) ≤ (n : Int) := by omega
  have q3 : i ≤ c := by omega
  have q4 : (i : Int) ≤ (c : Int) := by omega
  have d2 : ((j : Int) == (n : Int)) = true := by rw [beq_iff_eq]; omega
  have d4 : (j : Int) = (n : Int) := by omega
  have hbs : base ≤ w.heap.size := by obtain ⟨cur, hh⟩ := hheap; exact Nat.le_of_lt (Nat.lt_of_le_of_lt hbg (blk_lt hh))
  have hTK : hdk.R 74 w base (fun _ => True) (.slice (some ⟨g, 0, none⟩) i c) (hs.take i) := by
    have h1 : Rw 74 w base g c ((hs.take i).map hv) := by rw [List.map_take]; exact hrw.take i
    have h2 := h1.to
    rw [show (hs.take i).length = i by rw [List.length_take]; omega] at h2
    exact h2
  have hSR : ReadsRow (hdk.K w) hdk.sz w (some ⟨bx, 0, none⟩) 2 [a, b] := ⟨rfl, by omega, fun _ => ⟨_, rfl, fun q p hq => ⟨[hv p], rfl, rfl, fun r u hu => by
    match r, hu with
    | 0, hu =>
      obtain rfl : hv p = u := by simpa using hu
      exact api_Entry_97.src hbx (q * 1 + 0) (hv p) (by rw [Nat.mul_one, Nat.add_zero, show ([hv a, hv b] : List Value) = [a, b].map hv from rfl, List.getElem?_map, hq]; rfl)⟩⟩⟩
  have hl2 : (hs.take i ++ [a, b]).length = i + 2 := by simp only [List.length_append, List.length_take, List.length_drop, List.length_map, List.length_cons, List.length_nil]; omega
  have HTK := Aside0.mk hTK
  have HSR := Aside0.mk hSR
  have HB0 := Aside0.mk (Below.refl base w)
  have HBS := Aside0.mk hbs
  have HL2 := Aside0.mk hl2
  have hlen : ((hs.take i).length + 2) * 24 ≤ 140737488355328 := by rw [List.length_take]; omega
  have HLEN := Aside0.mk hlen
  have HF := Aside0.mk (show ∀ (v : Value) (W : World), hdk.R 74 W base (fun _ => True) v (hs.take i ++ [a, b]) → w.grownBy W (some g) → ∃ v', Ending.returned v = .returned v' ∧ NR k85 85 74 W base v' (xs.take i ++ [ya, yb]) ∧ Below base w W from fun v W hr hg =>
    ⟨_, rfl, api_Entry_97.fin ((hI.take i).append ((Inn.one ha).append (Inn.one hb))) hheap hbg hr hg⟩)
  have e1 : decide ((i : Int) + 2 < (n : Int)) = false := decide_eq_false (by omega)
  have e2 : decide (i + 2 < n) = false := decide_eq_false (by omega)
  clear hR hI ha hb hbx hj hjn hnl hI0 hrw hheap hi0 hz1 hlh hbg hbs hTK hSR hl2 hlen
  go_enter Try.func97, Try.ntmps97
  go_wp2_with (at_builtin; refine Kd.R_append_rows hdk (Rr := hdk.K w) (w0 := w) base rfl (.tmp 32) (.tmp 33) 59 74 (.slice none 0 0) 24 rfl Try.underlying59 api_Entry_95.info rfl (by decide) (by decide) (.slice (some ⟨g, 0, none⟩) i c) (hs.take i) [a, b] (some ⟨bx, 0, none⟩) 2 2 (fun _ => True) (fun _ => False) rfl rfl HTK.out HSR.out (fun _ _ h => h) (fun _ h => h.elim) (fun _ _ => trivial) HB0.out HBS.out HLEN.out ?_; intro v1 W1 hR1 hB1 hG1 hat; obtain ⟨A1, c1, he1⟩ := Kd.R_slice hR1; rw [HL2.out] at he1; subst he1; have HR1 := Aside0.mk hR1; have HG1 := Aside0.mk (show w.grownBy W1 (some g) from hG1); clear hR1 hB1 hG1 hat)
  go_ret
  exact HF.out _ _ HR1.out HG1.out
set_option maxHeartbeats 8000000 in
set_option maxRecDepth 100000 in
/-- one element in the place of two, ahead of others -/
theorem api_Entry_97.less {w : World} {base g n c : Nat} {xs : List (List S85)} (h : NR k85 85 74 w base (.slice (some ⟨g, 0, none⟩) n c) xs) (i j : Nat) (hj : j = i + 2) (hjn : j < n) (hn : n < 1000000)
    (a : Hd) (ya : List S85) (ha : Kd.R k85 85 w base (fun _ => True) (hv a) ya) (bx : Nat) (hbx : w.heap[bx]? = some (.cells #[hv a] 74 (0, 0))) (hne : bx ≠ g) :
    Calls Try.prog 97 #[.slice (some ⟨g, 0, none⟩) n c, .int .i64 (i : Int), .int .i64 (j : Int), .slice (some ⟨bx, 0, none⟩) 1 1] w fun e w' => ∃ v', e = .returned v' ∧ NR k85 85 74 w' base v' (xs.take i ++ [ya] ++ xs.drop j) ∧ Below base w w' := by
  obtain ⟨hs, hR, hI⟩ := h
  have hnl := (R_holds hR).1
  have hnc := (R_holds hR).2.1
  have hcm := (R_holds hR).2.2.1
  have hbg := (R_holds hR).2.2.2.2.1
  have hI0 := hI.1
  have hrw := Rw.of hR
  have hheap := hrw.heap
  obtain ⟨i0, hi0, _, hz1, _⟩ := info_parts api_Entry_95.info
  have hlh : (hs.map hv).length = n := by rw [List.length_map]; exact hnl.symm
  unfold maxLen at hcm
  have d1 : ((i : Int) == (j : Int)) = false := beq_eq_false_iff_ne.2 (by omega)
  have d3 : ¬ ((i : Int) = (j : Int)) := by omega
  have p1 : (i : Int) ≤ (j : Int) := by omega
  have p2 : (j : Int) ≤ (n : Int) := by omega
  have p3 : i ≤ j := by omega
  have p4 : j ≤ n := by omega
  have q1 : i ≤ n := by omega
  have q2 : (i : Int) ≤ (n : Int) := by omega
  have q3 : i ≤ c := by omega
  have q4 : (i : Int) ≤ (c : Int) := by omega
  have d2 : ((j : Int) == (n : Int)) = false := beq_eq_false_iff_ne.2 (by omega)
  have d4 : ¬ ((j : Int) = (n : Int)) := by omega
  obtain ⟨t, ht⟩ : ∃ t : Nat, t = n - 1 := ⟨_, rfl⟩
  have w1 : IntKind.i64.wrap ((i : Int) + 1) = (i : Int) + 1 := by rw [IntKind.wrap_i64]; omega
  have w2 : IntKind.i64.wrap ((i : Int) + 1 + ((n - j : Nat) : Int)) = (t : Int) := by rw [IntKind.wrap_i64]; omega
  have hld : ((hs.drop j).map hv).length = n - j := by rw [List.length_map, List.length_drop, hnl]
  have HC1 := Aside0.mk (show ∀ W : World, Rw 74 W base g c (hs.map hv) → W.heap[bx]? = some (.cells #[hv a] 74 (0, 0)) → ∃ v' w', (Builtin.copy_ #[59, 59] 3 #[.slice (some ⟨g, i, none⟩) (t - i) (c - i), .slice (some ⟨bx, 0, none⟩) 1 1]).run Try.prog W = .ok v' w' ∧ (Rw 74 w' base g c ((hs.map hv).take i ++ [hv a] ++ (hs.map hv).drop (i + 1)) ∧ W.grownBy w' (some g)) from fun W hw hbx =>
    Rw.copy (P := Try.prog) 59 59 3 Try.underlying59 (by kernel_rfl) hw i (t - i) (c - i) (by rw [hlh]; omega) [hv a] ⟨bx, 0, none⟩ 1 (api_Entry_97.src hbx) (fun u hu => by obtain rfl := List.mem_singleton.1 hu; exact hv_one a) (by simp; omega) (by simp; omega))
  have hm : ((hs.map hv).take i ++ [hv a] ++ (hs.map hv).drop (i + 1)).length = n := by simp only [List.length_append, List.length_take, List.length_drop, List.length_map, List.length_cons, List.length_nil]; omega
  have HC2 := Aside0.mk (show ∀ W : World, Rw 74 W base g c ((hs.map hv).take i ++ [hv a] ++ (hs.map hv).drop (i + 1)) → ∃ v' w', (Builtin.copy_ #[59, 59] 3 #[.slice (some ⟨g, i + 1, none⟩) (t - (i + 1)) (c - (i + 1)), .slice (some ⟨g, j, none⟩) (n - j) (c - j)]).run Try.prog W = .ok v' w' ∧ (Rw 74 w' base g c ((hs.take i ++ [a] ++ hs.drop j).map hv ++ ((hs.map hv).take i ++ [hv a] ++ (hs.map hv).drop (i + 1)).drop (i + 1 + (n - j))) ∧ W.grownBy w' (some g)) from fun W hw => by
    have := Rw.copy (P := Try.prog) 59 59 3 Try.underlying59 (by kernel_rfl) hw (i + 1) (t - (i + 1)) (c - (i + 1)) (by rw [hm]; omega) ((hs.drop j).map hv) ⟨g, j, none⟩ (c - j) (fun q u hu => by
      rw [Addr.add_lit]
      refine hw.cell ?_
      rw [List.map_drop, List.getElem?_drop] at hu
      have h1 : ((hs.map hv).take i ++ [hv a]).length = i + 1 := by simp only [List.length_append, List.length_take, List.length_drop, List.length_map, List.length_cons, List.length_nil]; omega
      rw [List.getElem?_append_right (by rw [h1]; omega), List.getElem?_drop, h1, show i + 1 + (j + q - (i + 1)) = j + q by omega]
      exact hu) (fun u hu => by
      obtain ⟨x, _, rfl⟩ := List.mem_map.1 hu
      exact hv_one x) (by rw [hld]; omega) (by rw [hld]; omega)
    rw [hld] at this
    have he : ((hs.map hv).take i ++ [hv a] ++ (hs.map hv).drop (i + 1)).take (i + 1) ++ (hs.drop j).map hv = (hs.take i ++ [a] ++ hs.drop j).map hv := by
      rw [List.take_left' (by simp only [List.length_append, List.length_take, List.length_drop, List.length_map, List.length_cons, List.length_nil]; omega)]
      simp only [List.map_append, List.map_take, List.map_drop, List.map_cons, List.map_nil]
    rw [he] at this
    exact this)
  have hl2 : (hs.take i ++ [a] ++ hs.drop j).length = t := by simp only [List.length_append, List.length_take, List.length_drop, List.length_map, List.length_cons, List.length_nil]; omega
  have HC3 := Aside0.mk (show ∀ W : World, Rw 74 W base g c ((hs.take i ++ [a] ++ hs.drop j).map hv ++ ((hs.map hv).take i ++ [hv a] ++ (hs.map hv).drop (i + 1)).drop (i + 1 + (n - j))) → ∃ v' w', (Builtin.clear_ #[59] 0 #[.slice (some ⟨g, t, none⟩) (n - t) (c - t)]).run Try.prog W = .ok v' w' ∧ (Rw 74 w' base g c ((hs.take i ++ [a] ++ hs.drop j).map hv) ∧ W.grownBy w' (some g)) from fun W hw => by
    have := Rw.clear (P := Try.prog) 59 0 (.slice none 0 0) Try.underlying59 Try.zeroValue74 rfl rfl hw t (n - t) (c - t) (by rw [List.length_append, List.length_map, hl2]; omega) (by omega) (by omega)
    rw [List.take_left' (by rw [List.length_map, hl2])] at this
    exact this)
  have HB1 := Aside0.mk (show w.heap[bx]? = some (.cells #[hv a] 74 (0, 0)) from hbx)
  have HF := Aside0.mk (show ∀ W : World, Rw 74 W base g c ((hs.take i ++ [a] ++ hs.drop j).map hv) → w.grownBy W (some g) → ∃ v', Ending.returned (.slice (some ⟨g, 0, none⟩) t c) = .returned v' ∧ NR k85 85 74 W base v' (xs.take i ++ [ya] ++ xs.drop j) ∧ Below base w W from fun W hw hg => by
    have hr := hw.to
    rw [hl2] at hr
    exact ⟨_, rfl, api_Entry_97.fin (((hI.take i).append (Inn.one ha)).append (hI.drop j)) hheap hbg hr hg⟩)
  have HW := Aside0.mk hrw
  have e1 : decide (c < t) = false := decide_eq_false (by omega)
  have e1i : decide ((c : Int) < (t : Int)) = false := decide_eq_false (by omega)
  have e2 : decide ((i : Int) + 1 ≤ (j : Int)) = true := decide_eq_true (by omega)
  have e3 : (i : Int) + 1 ≤ (t : Int) := by omega
  have e4 : i + 1 ≤ t := by omega
  have e5 : ¬ (c = i + 1) := by omega
  have e6 : t ≤ c := by omega
  have e7 : (t : Int) ≤ (c : Int) := by omega
  have e8 : (0 : Int) ≤ (i : Int) + 1 := by omega
  have e9 : ((i : Int) + 1).toNat = i + 1 := by omega
  have e10 : i ≤ t := by omega
  have e11 : ¬ (c = j) := by omega
  have e12 : (i : Int) ≤ (t : Int) := by omega
  have e13 : ¬ (c = i) := by omega
  have e14 : t ≤ n := by omega
  have e15 : (t : Int) ≤ (n : Int) := by omega
  have e16 : ¬ (c = t) := by omega
  have HT := Aside0.mk ht
  clear hR hI ha hbx hne hj hnl hI0 hrw hheap hi0 hz1 hlh hbg hld hm hl2 ht
  go_enter Try.func97, Try.ntmps97
  go_wp2_with fail
  go_quiet (fail)
  go_wp2_with (refine Go.Proofs.YtpfikmchimlneaaW.Sl.wpList_copy_ex _ rfl (.tmp 95) (.tmp 96) 59 59 rfl (.slice (some ⟨g, i, none⟩) (t - i) (c - i)) (.slice (some ⟨bx, 0, none⟩) 1 1) rfl rfl (HC1.out _ (by exact HW.out) (by exact HB1.out)) ?_; rintro v1 W1 ⟨hR1, hG1⟩; have HW1 := Aside0.mk hR1; have HG1 := Aside0.mk (show w.grownBy W1 (some g) from ⟨hG1.os, hG1.tape, hG1.output, hG1.size, hG1.block⟩); clear hR1 hG1)
  go_region_law (refine Go.Proofs.YtpfikmchimlneaaW.Sl.step_copy_ex _ rfl (.tmp 103) (.tmp 106) 59 59 rfl (.slice (some ⟨g, i + 1, none⟩) (t - (i + 1)) (c - (i + 1))) (.slice (some ⟨g, j, none⟩) (n - j) (c - j)) (by simp [Act.eval, Act.put]) (by simp [Act.eval, Act.put]) (HC2.out _ (by exact HW1.out)) ?_; rintro v2 W2 ⟨hR2, hG2⟩; obtain ⟨vc, W3, hrun, hR3, hG3⟩ := HC3.out W2 hR2; have HR3 := Aside0.mk hR3; have HG3 := Aside0.mk (World.grownBy.trans HG1.out (World.grownBy.trans (show W1.grownBy W2 (some g) from ⟨hG2.os, hG2.tape, hG2.output, hG2.size, hG2.block⟩) hG3)); clear hR2 hG2 hR3 hG3 HC2 HC3)
  go_wp2_with fail
  go_ret
  exact HF.out _ HR3.out HG3.out
set_option maxHeartbeats 8000000 in
set_option maxRecDepth 100000 in
/-- two elements in the place of one, ahead of others, with room for one more -/
theorem api_Entry_97.room {w : World} {base g n c : Nat} {xs : List (List S85)} (h : NR k85 85 74 w base (.slice (some ⟨g, 0, none⟩) n c) xs) (i j : Nat) (hj : j = i + 1) (hjn : j < n) (hc : n + 1 ≤ c) (hn : n < 1000000)
    (a b : Hd) (ya yb : List S85) (ha : Kd.R k85 85 w base (fun _ => True) (hv a) ya) (hb : Kd.R k85 85 w base (fun _ => True) (hv b) yb) (bx : Nat) (hbx : w.heap[bx]? = some (.cells #[hv a, hv b] 74 (0, 0))) (hne : bx ≠ g) :
    Calls Try.prog 97 #[.slice (some ⟨g, 0, none⟩) n c, .int .i64 (i : Int), .int .i64 (j : Int), .slice (some ⟨bx, 0, none⟩) 2 2] w fun e w' => ∃ v', e = .returned v' ∧ NR k85 85 74 w' base v' (xs.take i ++ [ya, yb] ++ xs.drop j) ∧ Below base w w' := by
  obtain ⟨hs, hR, hI⟩ := h
  have hnl := (R_holds hR).1
  have hnc := (R_holds hR).2.1
  have hcm := (R_holds hR).2.2.1
  have hI0 := hI.1
  have HW := Aside0.mk (Rw.of hR)
  have HI := Aside0.mk hI
  have HR := Aside0.mk hR
  have HA := Aside0.mk ha
  have HBB := Aside0.mk hb
  have HX := Aside0.mk hbx
  have HNE := Aside0.mk hne
  have HJ := Aside0.mk hj
  unfold maxLen at hcm
  have d1 : ((i : Int) == (j : Int)) = false := beq_eq_false_iff_ne.2 (by omega)
  have d2 : ((j : Int) == (n : Int)) = false := beq_eq_false_iff_ne.2 (by omega)
  have d3 : ¬ ((i : Int) = (j : Int)) := by omega
  have d4 : ¬ ((j : Int) = (n : Int)) := by omega
  have p1 : (i : Int) ≤ (j : Int) := by omega
  have p2 : (j : Int) ≤ (n : Int) := by omega
  have p3 : i ≤ j := by omega
  have p4 : j ≤ n := by omega
  have HN := Aside0.mk hnl
  have HI0 := Aside0.mk hI0
  have w1 : IntKind.i64.wrap ((i : Int) + 2) = (i : Int) + 2 := by rw [IntKind.wrap_i64]; omega
  obtain ⟨t, ht⟩ : ∃ t : Nat, t = n + 1 := ⟨_, rfl⟩
  have w2 : IntKind.i64.wrap ((i : Int) + 2 + ((n - j : Nat) : Int)) = (t : Int) := by rw [IntKind.wrap_i64]; omega
  have q1 : i ≤ n := by omega
  have q2 : (i : Int) ≤ (n : Int) := by omega
  have q3 : i ≤ c := by omega
  have q4 : (i : Int) ≤ (c : Int) := by omega
  have HT := Aside0.mk ht
  have e1 : decide (c < t) = false := decide_eq_false (by omega)
  have e1i : decide ((c : Int) < (t : Int)) = false := decide_eq_false (by omega)
  have e2 : decide ((i : Int) + 2 ≤ (j : Int)) = false := decide_eq_false (by omega)
  have e3 : (i : Int) + 2 ≤ (t : Int) := by omega
  have e4 : i + 2 ≤ t := by omega
  have e5 : ¬ (c = i + 2) := by omega
  have e6 : t ≤ c := by omega
  have e7 : (t : Int) ≤ (c : Int) := by omega
  have e8 : (0 : Int) ≤ (i : Int) + 2 := by omega
  have e9 : ((i : Int) + 2).toNat = i + 2 := by omega
  have e10 : i ≤ t := by omega
  have hlh : (hs.map hv).length = n := by rw [List.length_map]; exact hnl.symm
  have hld : ((hs.drop j).map hv).length = n - j := by rw [List.length_map, List.length_drop, hnl]
  have HNE2 := Aside0.mk (show (⟨g, i + 2, none⟩ : Addr).block ≠ (⟨bx, 0, none⟩ : Addr).block from fun e => hne e.symm)
  have HS1 := Aside0.mk (show w.shape? (⟨g, i + 2, none⟩ : Addr).block = some (74, c) from by obtain ⟨_, _, _, _, _, cur, h1, h2, _⟩ := R_holds hR; simp [World.shape?, h1, h2])
  have HS2 := Aside0.mk (show w.shape? (⟨bx, 0, none⟩ : Addr).block = some (74, 2) from by simp [World.shape?, hbx])
  have HS3 := Aside0.mk (show w.frozen? (⟨g, i + 2, none⟩ : Addr) = false from by obtain ⟨_, _, _, _, _, cur, h1, h2, _⟩ := R_holds hR; simp [World.frozen?, h1])
  have HS4 := Aside0.mk (show w.frozen? ({ block := (⟨g, i + 2, none⟩ : Addr).block, off := c } : Addr) = false from by obtain ⟨_, _, _, _, _, cur, h1, h2, _⟩ := R_holds hR; simp [World.frozen?, h1])
  have HB2 := Aside0.mk (show ∀ W : World, w.grownBy W (some g) → W.heap[bx]? = some (.cells #[hv a, hv b] 74 (0, 0)) from fun W hg => (hg.block bx (blk_lt hbx) (fun e => hne (Option.some.inj e))).trans hbx)
  have HC1 := Aside0.mk (show ∀ W : World, Rw 74 W base g c (hs.map hv) → ∃ v' w', (Builtin.copy_ #[59, 59] 3 #[.slice (some ⟨g, i + 2, none⟩) (t - (i + 2)) (c - (i + 2)), .slice (some ⟨g, j, none⟩) (n - j) (c - j)]).run Try.prog W = .ok v' w' ∧ (Rw 74 w' base g c ((hs.map hv).take (i + 2) ++ (hs.drop j).map hv) ∧ W.grownBy w' (some g)) from fun W hw => by
    have := Rw.copy (P := Try.prog) 59 59 3 Try.underlying59 (by kernel_rfl) hw (i + 2) (t - (i + 2)) (c - (i + 2)) (by rw [hlh]; omega) ((hs.drop j).map hv) ⟨g, j, none⟩ (c - j) (fun q u hu => by
      rw [Addr.add_lit]
      refine hw.cell ?_
      rw [List.map_drop, List.getElem?_drop] at hu
      exact hu) (fun u hu => by
      obtain ⟨x, _, rfl⟩ := List.mem_map.1 hu
      exact hv_one x) (by rw [hld]; omega) (by rw [hld]; omega)
    rw [hld, List.drop_eq_nil_of_le (show (hs.map hv).length ≤ i + 2 + (n - j) by rw [hlh]; omega), List.append_nil] at this
    exact this)
  have HC2 := Aside0.mk (show ∀ W : World, Rw 74 W base g c ((hs.map hv).take (i + 2) ++ (hs.drop j).map hv) → W.heap[bx]? = some (.cells #[hv a, hv b] 74 (0, 0)) → ∃ v' w', (Builtin.copy_ #[59, 59] 3 #[.slice (some ⟨g, i, none⟩) (t - i) (c - i), .slice (some ⟨bx, 0, none⟩) 2 2]).run Try.prog W = .ok v' w' ∧ (Rw 74 w' base g c ((hs.take i ++ [a, b] ++ hs.drop j).map hv) ∧ W.grownBy w' (some g)) from fun W hw hbx => by
    have := Rw.copy (P := Try.prog) 59 59 3 Try.underlying59 (by kernel_rfl) hw i (t - i) (c - i) (by rw [List.length_append, List.length_take, hlh]; omega) [hv a, hv b] ⟨bx, 0, none⟩ 2 (fun q u hu => by
      rw [Addr.add_lit, Nat.zero_add]
      simp only [World.cell?, hbx]
      simpa using hu) (fun u hu => by
      rcases List.mem_cons.1 hu with rfl | hu
      · exact hv_one a
      · obtain rfl := List.mem_singleton.1 hu
        exact hv_one b) (by simp; omega) (by simp; omega)
    have he : ((hs.map hv).take (i + 2) ++ (hs.drop j).map hv).take i ++ [hv a, hv b] ++ ((hs.map hv).take (i + 2) ++ (hs.drop j).map hv).drop (i + [hv a, hv b].length) = (hs.take i ++ [a, b] ++ hs.drop j).map hv := by
      have h1 : ((hs.map hv).take (i + 2)).length = i + 2 := by rw [List.length_take, hlh]; omega
      rw [List.take_append_of_le_length (by rw [h1]; omega), List.take_take, Nat.min_eq_left (by omega), show i + [hv a, hv b].length = i + 2 from rfl, List.drop_left' h1]
      simp only [List.map_append, List.map_take, List.map_drop, List.map_cons, List.map_nil]
    rw [he] at this
    exact this)
  have HF := Aside0.mk (show ∀ W : World, Rw 74 W base g c ((hs.take i ++ [a, b] ++ hs.drop j).map hv) → w.grownBy W (some g) → ∃ v', Ending.returned (.slice (some ⟨g, 0, none⟩) t c) = .returned v' ∧ NR k85 85 74 W base v' (xs.take i ++ [ya, yb] ++ xs.drop j) ∧ Below base w W from fun W hw hg => by
    obtain ⟨cur, hheap⟩ := (Rw.of hR).heap
    have hbg := (R_holds hR).2.2.2.2.1
    have hl : (hs.take i ++ [a, b] ++ hs.drop j).length = t := by
      simp only [List.length_append, List.length_take, List.length_drop, List.length_cons, List.length_nil, ← hnl]
      omega
    have hr := hw.to
    rw [hl] at hr
    exact ⟨_, rfl, ⟨_, hr, (((hI.take i).append ((Inn.one ha).append (Inn.one hb))).append (hI.drop j)).grown api_Entry_95.ne hheap hg⟩, (Below.refl base w).grown hg (Nat.le_of_lt (Nat.lt_of_le_of_lt hbg (blk_lt hheap))) (fun k hk => by cases hk; exact hbg)⟩)
  have e11 : ¬ (c = j) := by omega
  have e12 : (i : Int) ≤ (t : Int) := by omega
  have e13 : ¬ (c = i) := by omega
  clear hR hI ha hb hbx hne hj hnl hI0 ht hlh hld
  go_enter Try.func97, Try.ntmps97
  go_wp2_with fail
  go_quiet (fail)
  go_wp2_with fail
  rw [run_callFunc_extern Try.func117 (by kernel_rfl) (by kernel_rfl) (by kernel_rfl) (e := Extern.SlicesOverlaps.overlaps #[59, 59] #[4]) (by kernel_rfl), Lib.run_overlaps_apart (w.drewN nq) 59 4 74 Try.underlying59 1 Try.sizeOf74 ⟨g, i + 2, none⟩ ⟨bx, 0, none⟩ (t - (i + 2)) (c - (i + 2)) 2 2 HNE2.out 74 74 c 2 (show (w.drewN nq).shape? _ = _ from HS1.out) (show (w.drewN nq).shape? _ = _ from HS2.out) (by decide) (show (w.drewN nq).frozen? _ = _ from HS3.out) (show (w.drewN nq).frozen? _ = _ from HS4.out)]
  simp only [Result.andThen]
  rw [Oper.upon_value]
  go_wp2_with fail
  go_region_law (refine step_copy_ex _ rfl (.tmp 126) (.tmp 129) 59 59 rfl (.slice (some ⟨g, i + 2, none⟩) (t - (i + 2)) (c - (i + 2))) (.slice (some ⟨g, j, none⟩) (n - j) (c - j)) (by simp [Act.eval, Act.put]) (by simp [Act.eval, Act.put]) (HC1.out _ (by exact HW.out)) ?_; rintro v1 W1 ⟨hR1, hG1⟩; have HW1 := Aside0.mk hR1; have HG1 := Aside0.mk (show w.grownBy W1 (some g) from ⟨hG1.os, hG1.tape, hG1.output, hG1.size, hG1.block⟩); clear hR1 hG1)
  go_wp2_with (refine wpList_copy_ex _ rfl (.tmp 133) (.tmp 134) 59 59 rfl (.slice (some ⟨g, i, none⟩) (t - i) (c - i)) (.slice (some ⟨bx, 0, none⟩) 2 2) rfl rfl (HC2.out _ (by exact HW1.out) (by exact HB2.out _ HG1.out)) ?_; rintro v2 W2 ⟨hR2, hG2⟩; have HW2 := Aside0.mk hR2; have HG2 := Aside0.mk (World.grownBy.trans HG1.out (show W1.grownBy W2 (some g) from ⟨hG2.os, hG2.tape, hG2.output, hG2.size, hG2.block⟩)); clear hR2 hG2)
  go_ret
  exact HF.out _ HW2.out HG2.out
set_option maxHeartbeats 8000000 in
set_option maxRecDepth 100000 in
/-- two elements in the place of one, ahead of others, with no room -/
theorem api_Entry_97.grow {w : World} {base g n c : Nat} {xs : List (List S85)} (h : NR k85 85 74 w base (.slice (some ⟨g, 0, none⟩) n c) xs) (i j : Nat) (hj : j = i + 1) (hjn : j < n) (hc : c < n + 1) (hn : n < 1000000)
    (a b : Hd) (ya yb : List S85) (ha : Kd.R k85 85 w base (fun _ => True) (hv a) ya) (hb : Kd.R k85 85 w base (fun _ => True) (hv b) yb) (bx : Nat) (hbx : w.heap[bx]? = some (.cells #[hv a, hv b] 74 (0, 0))) :
    Calls Try.prog 97 #[.slice (some ⟨g, 0, none⟩) n c, .int .i64 (i : Int), .int .i64 (j : Int), .slice (some ⟨bx, 0, none⟩) 2 2] w fun e w' => ∃ v', e = .returned v' ∧ NR k85 85 74 w' base v' (xs.take i ++ [ya, yb] ++ xs.drop j) ∧ Below base w w' := by
  obtain ⟨hs, hR, hI⟩ := h
  have hnl := (R_holds hR).1
  have hnc := (R_holds hR).2.1
  have hcm := (R_holds hR).2.2.1
  have hbg := (R_holds hR).2.2.2.2.1
  have hI0 := hI.1
  have hrw := Rw.of hR
  have hheap := hrw.heap
  obtain ⟨i0, hi0, _, hz1, _⟩ := info_parts api_Entry_95.info
  have hlh : (hs.map hv).length = n := by rw [List.length_map]; exact hnl.symm
  unfold maxLen at hcm
  have d1 : ((i : Int) == (j : Int)) = false := beq_eq_false_iff_ne.2 (by omega)
  have d3 : ¬ ((i : Int) = (j : Int)) := by omega
  have p1 : (i : Int) ≤ (j : Int) := by omega
  have p2 : (j : Int) ≤ (n : Int) := by omega
  have p3 : i ≤ j := by omega
  have p4 : j ≤ n := by omega
  have q1 : i ≤ n := by omega
  have q2 : (i : Int) ≤ (n : Int) := by omega
  have q3 : i ≤ c := by omega
  have q4 : (i : Int) ≤ (c : Int) := by omega
  have d2 : ((j : Int) == (n : Int)) = false := beq_eq_false_iff_ne.2 (by omega)
  have d4 : ¬ ((j : Int) = (n : Int)) := by omega
  obtain ⟨t, ht⟩ : ∃ t : Nat, t = n + 1 := ⟨_, rfl⟩
  have w1 : IntKind.i64.wrap ((i : Int) + 2) = (i : Int) + 2 := by rw [IntKind.wrap_i64]; omega
  have w2 : IntKind.i64.wrap ((i : Int) + 2 + ((n - j : Nat) : Int)) = (t : Int) := by rw [IntKind.wrap_i64]; omega
  have hld : ((hs.drop j).map hv).length = n - j := by rw [List.length_map, List.length_drop, hnl]
  have hbs : base ≤ w.heap.size := by obtain ⟨cur, hh⟩ := hheap; exact Nat.le_of_lt (Nat.lt_of_le_of_lt hbg (blk_lt hh))
  have hgl : g < w.heap.size := by obtain ⟨cur, hh⟩ := hheap; exact blk_lt hh
  have hl2 : (hs.take i ++ [a, b] ++ hs.drop j).length = t := by simp only [List.length_append, List.length_take, List.length_drop, List.length_map, List.length_cons, List.length_nil]; omega
  have hti : (hs.take i).length = i := by rw [List.length_take]; omega
  have HG := Aside0.mk (show ∀ W : World, W.heap = w.heap → ∃ v' w', (Builtin.append_ #[59, 3] 59 #[.slice (some ⟨g, 0, none⟩) i c, .int .i64 ((t - i : Nat) : Int)]).run Try.prog W = .ok v' w' ∧ ∃ c', v' = .slice (some ⟨w.heap.size, 0, none⟩) t c' ∧ Rw 74 w' w.heap.size w.heap.size c' ((hs.take i ++ List.replicate (t - i) ((none, 0, 0) : Hd)).map hv) ∧ Below w.heap.size W w' ∧ t ≤ c' from fun W hW => by
    have h1 : Rw 74 W base g c ((hs.take i).map hv) := by rw [List.map_take]; exact (hrw.keep (by rw [hW])).take i
    have h2 := h1.to
    rw [hti] at h2
    obtain ⟨_, _, hC⟩ := Kd.R_reads' h2
    obtain ⟨v', w', hrun, c', he, hR', hB', hle⟩ := Go.Proofs.YtpfikmchimlneaaW.Sl.R_zeros_grow (P := Try.prog) hdk flat_hd (by decide) 59 3 59 74 (.slice none 0 0) 24 (z0 := ((none, 0, 0) : Hd)) (cap := c) Try.underlying59 (kn := .i64) Try.underlying3 api_Entry_95.info rfl (by decide) (n := i) (by rw [← hti]; rw [hti] at hC ⊢; exact hC) (fun _ => rfl) (t - i) (by omega) (by omega) (by omega) .i64
    rw [show i + (t - i) = t by omega, hW] at he hR'
    rw [hW] at hB'
    exact ⟨v', w', hrun, c', he, Rw.of hR', hB', by omega⟩)
  have hz : ((hs.take i ++ List.replicate (t - i) ((none, 0, 0) : Hd)).map hv).length = t := by simp only [List.length_map, List.length_append, List.length_replicate, hti]; omega
  have HC1 := Aside0.mk (show ∀ (W : World) (c' : Nat), Rw 74 W w.heap.size w.heap.size c' ((hs.take i ++ List.replicate (t - i) ((none, 0, 0) : Hd)).map hv) → W.heap[bx]? = some (.cells #[hv a, hv b] 74 (0, 0)) → ∃ v' w', (Builtin.copy_ #[59, 59] 3 #[.slice (some ⟨w.heap.size, i, none⟩) (t - i) (c' - i), .slice (some ⟨bx, 0, none⟩) 2 2]).run Try.prog W = .ok v' w' ∧ (Rw 74 w' w.heap.size w.heap.size c' ((hs.take i ++ [a, b]).map hv) ∧ W.grownBy w' (some w.heap.size)) from fun W c' hw hbx => by
    have hl := hw.len
    rw [hz] at hl
    obtain ⟨v', w', h1, h2, h3⟩ := Rw.copy (P := Try.prog) 59 59 3 Try.underlying59 (by kernel_rfl) hw i (t - i) (c' - i) (by rw [hz]; omega) [hv a, hv b] ⟨bx, 0, none⟩ 2 (api_Entry_97.src hbx) (fun u hu => by
      rcases List.mem_cons.1 hu with rfl | hu
      · exact hv_one a
      · obtain rfl := List.mem_singleton.1 hu
        exact hv_one b) (by simp; omega) (by simp; omega)
    refine ⟨v', w', h1, ?_, h3⟩
    have h4 := h2.take (i + 2)
    have h5 : ((hs.take i ++ List.replicate (t - i) ((none, 0, 0) : Hd)).map hv).take i = (hs.take i).map hv := by rw [List.map_append, List.take_left' (by rw [List.length_map, hti])]
    rw [h5, List.take_left' (by simp only [List.length_append, List.length_map, hti, List.length_cons, List.length_nil])] at h4
    rw [List.map_append]
    exact h4)
  have HC2 := Aside0.mk (show ∀ (W : World) (c' : Nat), t ≤ c' → Rw 74 W w.heap.size w.heap.size c' ((hs.take i ++ [a, b]).map hv) → W.heap[g]? = w.heap[g]? → ∃ v' w', (Builtin.copy_ #[59, 59] 3 #[.slice (some ⟨w.heap.size, i + 2, none⟩) (t - (i + 2)) (c' - (i + 2)), .slice (some ⟨g, j, none⟩) (n - j) (c - j)]).run Try.prog W = .ok v' w' ∧ (Rw 74 w' w.heap.size w.heap.size c' ((hs.take i ++ [a, b] ++ hs.drop j).map hv) ∧ W.grownBy w' (some w.heap.size)) from fun W c' hl hw hg => by
    have hold := hrw.keep hg
    have hz2 : ((hs.take i ++ [a, b]).map hv).length = i + 2 := by simp only [List.length_map, List.length_append, hti, List.length_cons, List.length_nil]
    have := Rw.copy (P := Try.prog) 59 59 3 Try.underlying59 (by kernel_rfl) hw (i + 2) (t - (i + 2)) (c' - (i + 2)) (by rw [hz2]; omega) ((hs.drop j).map hv) ⟨g, j, none⟩ (c - j) (fun q u hu => by
      rw [Addr.add_lit]
      refine hold.cell ?_
      rw [List.map_drop, List.getElem?_drop] at hu
      exact hu) (fun u hu => by
      obtain ⟨x, _, rfl⟩ := List.mem_map.1 hu
      exact hv_one x) (by rw [hld]; omega) (by rw [hld]; omega)
    rw [hld, List.take_of_length_le (by rw [hz2]; omega), List.drop_eq_nil_of_le (show ((hs.take i ++ [a, b]).map hv).length ≤ i + 2 + (n - j) by rw [hz2]; omega), List.append_nil, ← List.map_append] at this
    exact this)
  have HB1 := Aside0.mk (show ∀ W W' : World, W.heap = w.heap → Below w.heap.size W W' → W'.heap[bx]? = some (.cells #[hv a, hv b] 74 (0, 0)) from fun W W' hW hB => (hB.block bx (blk_lt hbx)).trans (by rw [hW]; exact hbx))
  have HF := Aside0.mk (show ∀ (W : World) (c' : Nat), Rw 74 W w.heap.size w.heap.size c' ((hs.take i ++ [a, b] ++ hs.drop j).map hv) → Below w.heap.size w W → ∃ v', Ending.returned (.slice (some ⟨w.heap.size, 0, none⟩) t c') = .returned v' ∧ NR k85 85 74 W base v' (xs.take i ++ [ya, yb] ++ xs.drop j) ∧ Below base w W from fun W c' hw hB => by
    have hr := hw.to
    rw [hl2] at hr
    exact ⟨_, rfl, ⟨_, Kd.R_lower hr hbs, (((hI.take i).append ((Inn.one ha).append (Inn.one hb))).append (hI.drop j)).below hB⟩, hB.mono hbs⟩)
  have hw0 : ∀ q, (w.drewN q).heap = w.heap := fun _ => rfl
  have HGL := Aside0.mk hgl
  have e1 : decide (c < t) = true := decide_eq_true (by omega)
  have e1i : decide ((c : Int) < (t : Int)) = true := decide_eq_true (by omega)
  have e8 : (0 : Int) ≤ (i : Int) + 2 := by omega
  have e9 : ((i : Int) + 2).toNat = i + 2 := by omega
  have e10 : i ≤ t := by omega
  have e11 : ¬ (c = j) := by omega
  have e12 : (i : Int) ≤ (t : Int) := by omega
  have e3 : (i : Int) + 2 ≤ (t : Int) := by omega
  have e4 : i + 2 ≤ t := by omega
  have e13 : (t : Int) - (i : Int) = ((t - i : Nat) : Int) := by omega
  have e14 : (t : Int) ≤ 1000000 := by omega
  have e15 : t ≤ 1000000 := by omega
  have HT := Aside0.mk (show i + 2 < t from by omega)
  have HW0 := Aside0.mk hw0
  clear hR hI ha hb hbx hj hnl hI0 hrw hheap hi0 hz1 hlh hbg hld hl2 ht hbs hgl hti hz hw0
  go_enter Try.func97, Try.ntmps97
  go_wp2_with fail
  go_quiet (fail)
  have HD := Aside0.mk (HW0.out nq)
  have HD2 := Aside0.mk (show Below w.heap.size w (w.drewN nq) from pw_below_drewN (Below.refl _ _) nq)
  generalize w.drewN nq = W0 at *
  go_wp2_with (first
    | (at_builtin; refine Go.Proofs.YtpfikmchimlneaaW.Sl.wpList_append_ex _ rfl (.tmp 63) (.tmp 66) 59 3 rfl (.slice (some ⟨g, 0, none⟩) i c) (.int .i64 ((t - i : Nat) : Int)) rfl rfl (by exact HG.out _ HD.out) ?_; rintro v1 W1 ⟨c', rfl, hR1, hB1, hct⟩; have HX1 := Aside0.mk (HB1.out _ _ HD.out hB1); have HB2 := Aside0.mk (HD2.out.trans hB1); have HR1 := Aside0.mk hR1; have HCT := Aside0.mk hct; have e20 : ¬ (c' = i) := (by have h_ := HT.out; omega); have e21 : ¬ (c' = i + 2) := (by have h_ := HT.out; omega); have e22 : i + 2 ≤ c' := (by have h_ := HT.out; omega); have e23 : i ≤ c' := (by omega); clear hR1 hB1 hct)
    | (refine Go.Proofs.YtpfikmchimlneaaW.Sl.wpList_copy_ex _ rfl (.tmp 70) (.tmp 71) 59 59 rfl (.slice (some ⟨w.heap.size, i, none⟩) (t - i) (c' - i)) (.slice (some ⟨bx, 0, none⟩) 2 2) rfl rfl (by exact HC1.out _ c' HR1.out HX1.out) ?_; rintro v2 W2 ⟨hR2, hG2⟩; have HR2 := Aside0.mk hR2; have HB3 := Aside0.mk (HB2.out.grown hG2 (by exact HB2.out.size) (fun k hk => by cases hk; exact Nat.le_refl _)); clear hR2 hG2))
  go_region_law (refine Go.Proofs.YtpfikmchimlneaaW.Sl.step_copy_ex _ rfl (.tmp 78) (.tmp 81) 59 59 rfl (.slice (some ⟨w.heap.size, i + 2, none⟩) (t - (i + 2)) (c' - (i + 2))) (.slice (some ⟨g, j, none⟩) (n - j) (c - j)) (by simp [Act.eval, Act.put]) (by simp [Act.eval, Act.put]) (HC2.out _ c' HCT.out (by exact HR2.out) (by exact HB3.out.block g HGL.out)) ?_; rintro v3 W3 ⟨hR3, hG3⟩; have HR3 := Aside0.mk hR3; have HB4 := Aside0.mk (HB3.out.grown (show W2.grownBy W3 (some w.heap.size) from ⟨hG3.os, hG3.tape, hG3.output, hG3.size, hG3.block⟩) (by exact HB3.out.size) (fun k hk => by cases hk; exact Nat.le_refl _)); clear hR3 hG3)
  go_wp2_with fail
  go_ret
  exact HF.out _ _ HR3.out HB4.out
/-- two elements in the place of one -/
theorem api_Entry_97.two {w : World} {base : Nat} {v : Value} {xs : List (List S85)} (h : NR k85 85 74 w base v xs) (i j : Nat) (hj : j = i + 1) (hi : i < xs.length) (hn : xs.length < 1000000)
    (a b : Hd) (ya yb : List S85) (ha : Kd.R k85 85 w base (fun _ => True) (hv a) ya) (hb : Kd.R k85 85 w base (fun _ => True) (hv b) yb) (bx : Nat) (hbx : w.heap[bx]? = some (.cells #[hv a, hv b] 74 (0, 0))) (hne : v.ownBlock ≠ some bx) :
    Calls Try.prog 97 #[v, .int .i64 (i : Int), .int .i64 (j : Int), .slice (some ⟨bx, 0, none⟩) 2 2] w fun e w' => ∃ v', e = .returned v' ∧ NR k85 85 74 w' base v' (xs.take i ++ [ya, yb] ++ xs.drop j) ∧ Below base w w' := by
  have h0 := h
  obtain ⟨hs, hR, hI⟩ := h
  have hl := hI.1
  obtain ⟨g, c, rfl, _, _⟩ := Kd.R_form hR (by omega)
  have hg : bx ≠ g := fun e => hne (by rw [e]; rfl)
  by_cases h1 : j = hs.length
  · have := api_Entry_97.end2 h0 i j hj h1 (by omega) a b ya yb ha hb bx hbx
    rw [List.drop_eq_nil_of_le (show xs.length ≤ j by omega), List.append_nil]
    exact this
  · by_cases h2 : hs.length + 1 ≤ c
    · exact api_Entry_97.room h0 i j hj (by omega) h2 (by omega) a b ya yb ha hb bx hbx hg
    · exact api_Entry_97.grow h0 i j hj (by omega) (by omega) (by omega) a b ya yb ha hb bx hbx
/-- one element in the place of two -/
theorem api_Entry_97.one {w : World} {base : Nat} {v : Value} {xs : List (List S85)} (h : NR k85 85 74 w base v xs) (i j : Nat) (hj : j = i + 2) (hi : i + 1 < xs.length) (hn : xs.length < 1000000)
    (a : Hd) (ya : List S85) (ha : Kd.R k85 85 w base (fun _ => True) (hv a) ya) (bx : Nat) (hbx : w.heap[bx]? = some (.cells #[hv a] 74 (0, 0))) (hne : v.ownBlock ≠ some bx) :
    Calls Try.prog 97 #[v, .int .i64 (i : Int), .int .i64 (j : Int), .slice (some ⟨bx, 0, none⟩) 1 1] w fun e w' => ∃ v', e = .returned v' ∧ NR k85 85 74 w' base v' (xs.take i ++ [ya] ++ xs.drop j) ∧ Below base w w' := by
  have h0 := h
  obtain ⟨hs, hR, hI⟩ := h
  have hl := hI.1
  obtain ⟨g, c, rfl, _, _⟩ := Kd.R_form hR (by omega)
  have hg : bx ≠ g := fun e => hne (by rw [e]; rfl)
  by_cases h1 : j = hs.length
  · have := api_Entry_97.end1 h0 i j hj h1 (by omega) a ya ha bx hbx hg
    rw [List.drop_eq_nil_of_le (show xs.length ≤ j by omega), List.append_nil]
    exact this
  · exact api_Entry_97.less h0 i j hj (by omega) (by omega) a ya ha bx hbx hg

end Go.Proofs.Ytpfikmchimlneaa.M3
