-- written by a program of this session (wip/myprint.py), over the kit's printer and the session's own contracts
import Derived.Test.YtnklnjghecmihaaH6x0
import Derived.Test.YtnklnjghecmihaaH6P0
import Derived.Test.YtnklnjghecmihaaH6x12
import Derived.Test.YtnklnjghecmihaaH6x16
namespace Go.Proofs.Ytnklnjghecmihaa.H6
open Go.RowKit Go.Proofs.YtnklnjghecmihaaW.PrintWords Go.Proofs.YtnklnjghecmihaaW.PrintLast Go.Proofs.YtnklnjghecmihaaW.PrintMore Go.Proofs.YtnklnjghecmihaaW.Mine
attribute [local go_sem] max2_int min2_int max_two min_two max_three min_three max_four min_four max2_str min2_str binOp_gtr_str binOp_leq_str binOp_geq_str   -- for this text's walks alone
set_option linter.unusedVariables false
set_option linter.unusedSimpArgs false

/-! ### block_Pack: function 19 -/
/-- the entries' bytes behind what is there -/
def block_Pack.go (k : Nat) : List S25 → ByteArray → ByteArray → Option ByteArray
  | [], _, acc => some acc
  | x :: r, last, acc => (key_Shared.f k last x.f0).bind fun n => if 0 ≤ n ∧ n ≤ (x.f0.size : Int) then (word_Num.f k n).bind fun a => (word_Texts.f k [x.f0.extract n.toNat x.f0.size, x.f1]).bind fun t => if acc.size + a.size + t.size ≤ 140737488355328 then block_Pack.go k r x.f0 (acc ++ a ++ t) else none else none
def block_Pack.f (k : Nat) (l0 : List S25) : Option ByteArray := (fold_Rises.f k l0).bind fun b => if b = true then (if (l0.length : Int) ≤ 2147483647 then (word_Num.f k (l0.length : Int)).bind fun a => if a.size ≤ 140737488355328 then block_Pack.go k l0 ⟨#[]⟩ a else none else some ⟨#[]⟩) else some ⟨#[]⟩
theorem block_Pack.mono_go (k : Nat) : ∀ (l : List S25) (last acc : ByteArray), LeO (block_Pack.go k l last acc) (block_Pack.go (k + 1) l last acc)
  | [], _, _ => LeO.refl _
  | x :: r, last, acc => LeO.bind (key_Shared.mono _ _ _) (fun _ => LeO.ite (LeO.bind (word_Num.mono _ _) (fun _ => LeO.bind (word_Texts.mono _ _) (fun _ => LeO.ite (block_Pack.mono_go k r _ _) (LeO.none _)))) (LeO.none _))
theorem block_Pack.mono : ∀ l0 k, LeO (block_Pack.f k l0) (block_Pack.f (k + 1) l0) := fun l0 k =>
  LeO.bind (fold_Rises.mono _ _) (fun _ => LeO.ite (LeO.ite (LeO.bind (word_Num.mono _ _) (fun _ => LeO.ite (block_Pack.mono_go k _ _ _) (LeO.none _))) (LeO.refl _)) (LeO.refl _))
theorem block_Pack.two (W : World) (a b : ByteArray) : Kd.C Kd.string (W.alloc (.cells #[.string a, .string b] 9)) (some ⟨W.heap.size, 0, none⟩) 2 [a, b] := by
  have hh := heap_alloc_new W (.cells #[.string a, .string b] 9)
  refine ⟨rfl, by omega, fun _ => ⟨_, rfl, fun j p hp => ?_⟩⟩
  refine ⟨[.string p], rfl, rfl, fun i u hu => ?_⟩
  have hi : i = 0 := by
    rcases i with _ | i
    · rfl
    · simp at hu
  subst hi
  obtain rfl : Value.string p = u := by simpa using hu
  rcases j with _ | _ | j
  · obtain rfl : a = p := by simpa using hp
    show World.cell? _ (⟨W.heap.size, 0, none⟩ : Addr) = _
    simp only [World.cell?, hh]; rfl
  · obtain rfl : b = p := by simpa using hp
    show World.cell? _ (⟨W.heap.size, 1, none⟩ : Addr) = _
    simp only [World.cell?, hh]; rfl
  · simp at hp
theorem block_Pack.lt {T e B b : Nat} {bs : List Value} {w : World} (h : Lib.IsBuilder T e B b bs w) : b < w.heap.size := h.elim (fun h => h.lt) (fun h => h.lt)
theorem block_Pack.drop {l : List S25} {j : Nat} (h : j < l.length) : l.drop j = rd_T25 l (j : Int) :: l.drop (j + 1) := by
  rw [List.drop_eq_getElem_cons h]
  congr 1
  unfold rd_T25
  simp [List.getD_eq_getElem?_getD, List.getElem?_eq_getElem h]
/-- blocks of other kinds than bytes, but for the builder's own, stay -/
def block_Pack.Fr (b : Nat) (w w' : World) : Prop := ∀ g cs T', w.heap[g]? = some (.cells cs T' (0, 0)) → T' ≠ 5 → g ≠ b → w'.heap[g]? = some (.cells cs T' (0, 0))
theorem block_Pack.Fr.refl (b : Nat) (w : World) : block_Pack.Fr b w w := fun _ _ _ h _ _ => h
theorem block_Pack.Fr.trans {b : Nat} {w w1 w2 : World} (h1 : block_Pack.Fr b w w1) (h2 : block_Pack.Fr b w1 w2) : block_Pack.Fr b w w2 := fun g cs T' h a c => h2 g cs T' (h1 g cs T' h a c) a c
theorem block_Pack.Fr.set (b o : Nat) (w : World) (u : Value) : block_Pack.Fr b w (w.setCell ⟨b, o, none⟩ u) := fun g cs T' h _ hb => by
  rw [Below.heap_setCell _ _ _ _ (show g ≠ (⟨b, o, none⟩ : Addr).block from hb)]
  exact h
theorem block_Pack.cc (B b : Nat) (bs : List Value) (w : World) (h : Lib.IsBuilder 116 5 B b bs w) :
    Calls Try.prog 126 #[.pointer (some ⟨b, 0, none⟩)] w fun e w' => e = .returned (.tuple #[]) ∧ ((Lib.BuilderAt 116 5 B b (.pointer (some ⟨b, 0, none⟩)) bs w' ∧ Below B w w') ∧ block_Pack.Fr b w w') := by
  rcases h with h | h
  · refine (strings_Builder_copyCheck_fresh b w h.cell0 h.shape h.frozen0).mono ?_
    rintro e w' ⟨rfl, rfl⟩
    exact ⟨rfl, ⟨h.used _, (Below.refl B w).setCell (p := ⟨b, 0, none⟩) h.1 _⟩, block_Pack.Fr.set b 0 w _⟩
  · refine (strings_Builder_copyCheck_used b w h.cell0).mono ?_
    rintro e w' ⟨rfl, rfl⟩
    exact ⟨rfl, ⟨h, Below.refl B _⟩, block_Pack.Fr.refl b _⟩
set_option maxHeartbeats 2000000 in
set_option maxRecDepth 100000 in
theorem block_Pack.ws (B b : Nat) (bs : List Value) (s : ByteArray) (w : World) (h : Lib.IsBuilder 116 5 B b bs w) (hlen : bs.length + s.size ≤ 140737488355328) (hBw : B ≤ w.heap.size) :
    Calls Try.prog 80 #[.pointer (some ⟨b, 0, none⟩), .string s] w fun e w' => e = .returned (.tuple #[.int .i64 s.size, .nilIface]) ∧ ((Lib.BuilderAt 116 5 B b (.pointer (some ⟨b, 0, none⟩)) (bs ++ Lib.strCells s) w' ∧ Below B w w') ∧ block_Pack.Fr b w w') := by
  have hinfo : (Try.prog.info? 5).map (fun i => (i.zero, i.size, i.bytes)) = some (some (.int .u8 0), 1, 1) := by kernel_rfl
  obtain ⟨i0, hi, hzz⟩ := Option.map_eq_some_iff.1 hinfo
  simp only [Prod.mk.injEq] at hzz
  obtain ⟨hz0, hz1, hz2⟩ := hzz
  clear hinfo
  go_enter Try.func80, Try.ntmps80
  go_wp2_with (go_at_call 126; refine (block_Pack.cc B b bs _ h).mono ?_)
  rintro e w1 ⟨rfl, ⟨h1, hb1⟩, hf1⟩
  obtain ⟨hB, v, hbk, hown, hne⟩ := h1
  have c0 : w1.cell? ⟨b, 0, none⟩ = some (.pointer (some ⟨b, 0, none⟩)) := by rw [Lib.cell_of_heap hbk]; rfl
  have c1 : w1.cell? ⟨b, 1, none⟩ = some v := by rw [Lib.cell_of_heap hbk]; rfl
  go_wp2_with (at_builtin; refine Lib.wpList_append_own_string _ rfl _ _ 114 9 rfl B 5 i0 Try.underlying114 Try.underlying9 hi hz0 hz1 hz2 _ _ _ rfl hown s rfl ?c3 ?c4 ?c5 ?_)
  case c3 => unfold maxLen; omega
  case c4 => omega
  case c5 => have := hb1.size; omega
  intro v' w2 hown' hgrow _
  have hlt : b < w1.heap.size := by
    rcases Nat.lt_or_ge b w1.heap.size with h' | h'
    · exact h'
    · simp [Array.getElem?_eq_none h'] at hbk
  have hb2 : w2.heap[b]? = some (.cells #[.pointer (some ⟨b, 0, none⟩), v] 116 (0, 0)) := by
    rw [hgrow.block b hlt (fun e => hne e.symm)]
    exact hbk
  have hf2 : block_Pack.Fr b w1 w2 := by
    intro g cs T' hg hT _
    have hglt : g < w1.heap.size := by
      rcases Nat.lt_or_ge g w1.heap.size with h' | h'
      · exact h'
      · simp [Array.getElem?_eq_none h'] at hg
    rw [hgrow.block g hglt (fun e => Lib.ownBlock_ne hown hg hT e.symm)]
    exact hg
  have d0 : w2.cell? ⟨b, 0, none⟩ = some (.pointer (some ⟨b, 0, none⟩)) := by rw [Lib.cell_of_heap hb2]; rfl
  have d1 : w2.cell? ⟨b, 1, none⟩ = some v := by rw [Lib.cell_of_heap hb2]; rfl
  have f1 : w2.frozen? ⟨b, 1, none⟩ = false := Lib.frozen_of_heap hb2 1
  obtain ⟨ao, n', cap, rfl⟩ : ∃ ao n' cap, v' = .slice ao n' cap := by
    rcases hown'.2 with ⟨hv, _⟩ | ⟨g, cap, cur, hv, _⟩
    · exact ⟨_, _, _, hv⟩
    · exact ⟨_, _, _, hv⟩
  go_wp2
  go_ret2
  refine ⟨rfl, ⟨?_, ?_⟩, ?_⟩
  · exact Lib.BuilderAt.put (T := 116) (e := 5) hB hb2 (bs' := bs ++ Lib.strCells s) (by simpa [Lib.strCells_length] using hown') (by decide)
  · exact (hb1.grown hgrow (by have := hb1.size; omega) (fun k hk => (hown.lt k hk).1)).setCell (p := ⟨b, 1, none⟩) hB _
  · exact (hf1.trans hf2).trans (block_Pack.Fr.set b 1 w2 _)
set_option maxHeartbeats 8000000 in
set_option maxRecDepth 100000 in
theorem block_Pack.calls (k : Nat) (A0 : Option Addr) (c0 : Nat) (l0 : List S25) (r : ByteArray) (w : World) (hr0 : Kd.C k25 w A0 l0.length l0) (hc0 : l0.length ≤ c0) (h : block_Pack.f k l0 = some r) :
    Calls Try.prog 19 #[.slice A0 l0.length c0] w fun e w' => e = .returned (.string r) ∧ Below w.heap.size w w' := by
  have hlen : l0.length ≤ 9223372036854775807 := hr0.2.1
  have HR := Aside0.mk hr0
  obtain ⟨b, hb, h⟩ := Option.bind_eq_some_iff.1 h
  have HRS := Aside0.mk hb
  cases b with
  | false =>
    rw [if_neg (by decide)] at h
    obtain rfl := Option.some.inj h
    clear hb h hr0
    go_enter Try.func19, Try.ntmps19
    go_wp2_with (go_at_call 79; refine (fold_Rises.calls k A0 c0 l0 false _ (by first | exact HR.out) hc0 HRS.out).mono ?_; rintro e w1 ⟨rfl, hb1⟩)
    go_ret
    exact ⟨rfl, hb1.below⟩
  | true =>
    rw [if_pos rfl] at h
    by_cases hm : (l0.length : Int) ≤ 2147483647
    · rw [if_pos hm] at h
      have hm2 : ¬ ((2147483647 : Int) < (l0.length : Int)) := by omega
      have hm3 : ¬ (2147483647 < l0.length) := by omega
      obtain ⟨a, ha, h⟩ := Option.bind_eq_some_iff.1 h
      by_cases hz : a.size ≤ 140737488355328
      · rw [if_pos hz] at h
        have HN := Aside0.mk ha
        have H0 := Aside0.mk h
        have HZ := Aside0.mk hz
        clear hb h ha hr0 hz
        go_enter Try.func19, Try.ntmps19
        go_wp2_with (go_at_call 79; refine (fold_Rises.calls k A0 c0 l0 true _ (by first | exact HR.out) hc0 HRS.out).mono ?_; rintro e w1 ⟨rfl, hb1⟩)
        have HR1 := Aside0.mk (Kd.C_below HR.out hb1.below)
        have HD := Aside0.mk hb1.below
        have HI0 := Aside0.mk (Lib.fresh_isBuilder 116 5 w1)
        have HA0 := Aside0.mk ((Below.refl w1.heap.size w1).alloc (Nat.le_refl _) (.cells #[.pointer none, .slice none 0 0] 116))
        clear hb1
        refine (word_Num.calls k (l0.length : Int) a _ HN.out).mono ?_
        rintro e w2 ⟨rfl, hb2⟩
        have HI1 := Aside0.mk (word_Texts.still HI0.out hb2)
        have HB1 := Aside0.mk (below_step HA0.out hb2)
        clear hb2 HI0 HA0
        go_wp2_with (go_at_call 80; refine (block_Pack.ws w1.heap.size w1.heap.size [] a _ HI1.out (by have := HZ.out; simpa using this) HB1.out.size).mono ?_; rintro e w3 ⟨rfl, ⟨hI, hb3⟩, hf3⟩)
        have HI2 : Aside0 (Lib.IsBuilder 116 5 w1.heap.size w1.heap.size (Lib.byteCells a.data.toList) w3) := ⟨.inr (by rw [show Lib.byteCells a.data.toList = [] ++ Lib.strCells a by simp [Lib.byteCells, Lib.strCells]]; exact hI)⟩
        have HB2 := Aside0.mk (HB1.out.trans hb3)
        clear hI hb3 hf3 HI1 HB1
        go_loopw [4, 22] (fun s i wr => ∃ (j : Nat) (last acc : ByteArray), s = .string last ∧ i = .int .i64 (j : Int) ∧ j ≤ l0.length ∧ Aside0 (block_Pack.go k (l0.drop j) last acc = some r) ∧ Aside0 (Lib.IsBuilder 116 5 w1.heap.size w1.heap.size (Lib.byteCells acc.data.toList) wr) ∧ Aside0 (Below w1.heap.size w1 wr)) (fun _ i _ => l0.length - (intOf i).toNat)
        case atStart => exact ⟨0, ⟨#[]⟩, a, rfl, rfl, Nat.zero_le _, H0, HI2, HB2⟩
        case round =>
          clear H0 HI2 HB2
          obtain ⟨j, last, acc, rfl, rfl, hj, HG, HI, HB⟩ := hrel
          by_cases hlt : j < l0.length
          · obtain ⟨ad, rfl, q0, q1⟩ := at_T25 (Kd.C_below HR1.out HB.out) (j : Int) (by omega) (by omega)
            rw [Int.toNat_natCast] at q0 q1
            have hg := HG.out
            rw [block_Pack.drop hlt, block_Pack.go] at hg
            generalize rd_T25 l0 (j : Int) = x at *
            obtain ⟨n, hn, hg⟩ := Option.bind_eq_some_iff.1 hg
            by_cases hnn : 0 ≤ n ∧ n ≤ (x.f0.size : Int)
            · rw [if_pos hnn] at hg
              obtain ⟨a1, ha1, hg⟩ := Option.bind_eq_some_iff.1 hg
              obtain ⟨t1, ht1, hg⟩ := Option.bind_eq_some_iff.1 hg
              by_cases hsz : acc.size + a1.size + t1.size ≤ 140737488355328
              · rw [if_pos hsz] at hg
                have HS := Aside0.mk hn
                have HN1 := Aside0.mk ha1
                have HT1 := Aside0.mk ht1
                have HG1 := Aside0.mk hg
                have HZ1 := Aside0.mk hsz
                have HNN := Aside0.mk hnn
                have hn1 : decide (0 ≤ n) = true := decide_eq_true hnn.1
                have hn2 : decide (n ≤ (x.f0.size : Int)) = true := decide_eq_true hnn.2
                have hn3 := eq_true hnn.1
                have hn4 := eq_true hnn.2
                have hn5 : (n < 0) = False := eq_false (by omega)
                have hn6 : ((x.f0.size : Int) < n) = False := eq_false (by omega)
                have hn7 : (n.toNat ≤ x.f0.size) = True := eq_true (by omega)
                have hbx := heap_alloc_new wr (.cells #[.string x.f0, .string x.f1] 25)
                have HAW := Aside0.mk ((Below.refl wr.heap.size wr).alloc (Nat.le_refl _) (.cells #[.string x.f0, .string x.f1] 25))
                have HBX := Aside0.mk hbx
                clear hn ha1 ht1 hg hsz HG hbx hnn
                have hszw : wr.heap.size < (wr.alloc (.cells #[.string x.f0, .string x.f1] 25)).heap.size := by simp
                have HLT := Aside0.mk hszw
                clear hszw
                go_wp2_with fail
                refine (key_Shared.calls k last x.f0 n _ HS.out).mono ?_
                rintro e w4 ⟨rfl, hb4⟩
                have HX4 := Aside0.mk ((hb4.block wr.heap.size HLT.out).trans HBX.out)
                have HB4 := Aside0.mk (below_step HAW.out hb4)
                have HI4 := Aside0.mk (word_Texts.still HI.out HB4.out)
                have hl4 : wr.heap.size < w4.heap.size := Nat.lt_of_lt_of_le HLT.out hb4.size
                have HL4 := Aside0.mk hl4
                clear hb4 hl4
                go_wp2_with fail
                refine (word_Num.calls k n a1 _ HN1.out).mono ?_
                rintro e w5 ⟨rfl, hb5⟩
                have HX5 := Aside0.mk ((hb5.block wr.heap.size HL4.out).trans HX4.out)
                have HB5 := Aside0.mk (below_step HB4.out hb5)
                have HI5 := Aside0.mk (word_Texts.still HI4.out hb5)
                have hl5 : wr.heap.size < w5.heap.size := Nat.lt_of_lt_of_le HL4.out hb5.size
                have HL5 := Aside0.mk hl5
                have hw5 : w1.heap.size ≤ w5.heap.size := Nat.le_trans HB.out.size HB5.out.size
                have HW5 := Aside0.mk hw5
                have hbne : wr.heap.size ≠ w1.heap.size := fun e => by
                  have h1 := (block_Pack.lt HI.out)
                  omega
                have HNE := Aside0.mk hbne
                clear hb5 hl5 hw5 hbne HX4 HB4 HI4 HL4
                go_wp2_with (go_at_call 80; refine (block_Pack.ws w1.heap.size w1.heap.size _ a1 _ HI5.out (by have := HZ1.out; simp [Lib.byteCells]; omega) HW5.out).mono ?_; rintro e w6 ⟨rfl, ⟨hI, hb6⟩, hf6⟩)
                have HX6 := Aside0.mk (hf6 _ _ _ HX5.out (by decide) HNE.out)
                have HI6 : Aside0 (Lib.IsBuilder 116 5 w1.heap.size w1.heap.size (Lib.byteCells (acc ++ a1).data.toList) w6) := ⟨.inr (by rw [← word_Texts.bytes]; exact hI)⟩
                have HB6 := Aside0.mk ((HB.out.trans (HB5.out.mono HB.out.size)).trans hb6)
                have HL6 := Aside0.mk (Nat.lt_of_lt_of_le HL5.out hb6.size)
                clear hI hb6 hf6 HX5 HB5 HI5 HL5 HW5
                have x0 : w6.cell? ⟨wr.heap.size, 0, none⟩ = some (.string x.f0) := by rw [Lib.cell_of_heap HX6.out]; rfl
                have x1 : w6.cell? ⟨wr.heap.size, 1, none⟩ = some (.string x.f1) := by rw [Lib.cell_of_heap HX6.out]; rfl
                go_region_held3 (fun w' => w'.cell? ⟨wr.heap.size, 0, none⟩ = some (.string x.f0) ∧ w'.cell? ⟨wr.heap.size, 1, none⟩ = some (.string x.f1))
                  ((first | exact ⟨k0, k1⟩ | exact ⟨m0, m1⟩ | go_keep))
                  ((first
                    | (go_at_call 83; refine (word_Texts.calls k _ _ [x.f0.extract n.toNat x.f0.size, x.f1] t1 _ ?hC ?hL HT1.out).mono ?_; (case hC => first | exact block_Pack.two _ _ _ | exact Kd.C_drew (block_Pack.two _ _ _)); (case hL => exact Nat.le_refl _); rintro e w7 ⟨rfl, hb7⟩; have HX7 : Aside0 (w7.heap[wr.heap.size]? = some (.cells #[.string x.f0, .string x.f1] 25 (0, 0))) := ⟨(hb7.block wr.heap.size (Nat.lt_of_lt_of_le HL6.out (by simp))).trans (by (with_reducible repeat first | apply z1_ | apply z2_ | apply z3_); exact HX6.out)⟩; have k0 : w7.cell? ⟨wr.heap.size, 0, none⟩ = some (.string x.f0) := (by rw [Lib.cell_of_heap HX7.out]; rfl); have k1 : w7.cell? ⟨wr.heap.size, 1, none⟩ = some (.string x.f1) := (by rw [Lib.cell_of_heap HX7.out]; rfl); have HB67 := Aside0.mk (below_step (show Below w6.heap.size w6 _ from by repeat (first | exact Below.refl _ _ | apply y1_ | apply y2_ | apply y3_)) hb7); have HI7 := Aside0.mk (word_Texts.still HI6.out HB67.out); have HB7 := Aside0.mk (HB6.out.trans (HB67.out.mono HB6.out.size)))
                    | (go_at_call 80; refine (block_Pack.ws w1.heap.size w1.heap.size (Lib.byteCells (acc ++ a1).data.toList) t1 _ ?hI ?hZ ?hW).mono ?_; (case hI => first | exact HI7.out | exact word_Texts.still HI7.out (by repeat (first | exact Below.refl _ _ | apply y1_ | apply y2_ | apply y3_))); (case hZ => have := HZ1.out; simp [Lib.byteCells, ByteArray.size_append] at this ⊢; omega); (case hW => exact HB7.out.size); rintro e w8 ⟨rfl, ⟨hI8, hb8⟩, hf8⟩; have HX8 : Aside0 (w8.heap[wr.heap.size]? = some (.cells #[.string x.f0, .string x.f1] 25 (0, 0))) := ⟨hf8 _ _ _ (by (with_reducible repeat first | apply z1_ | apply z2_ | apply z3_); exact HX7.out) (by decide) HNE.out⟩; have m0 : w8.cell? ⟨wr.heap.size, 0, none⟩ = some (.string x.f0) := (by rw [Lib.cell_of_heap HX8.out]; rfl); have m1 : w8.cell? ⟨wr.heap.size, 1, none⟩ = some (.string x.f1) := (by rw [Lib.cell_of_heap HX8.out]; rfl))))
                have HB8 := Aside0.mk (HB7.out.trans (hb8.mono (by first | exact Nat.le_refl _ | exact HB7.out.size)))
                have HI8 : Aside0 (Lib.IsBuilder 116 5 w1.heap.size w1.heap.size (Lib.byteCells (acc ++ a1 ++ t1).data.toList) w8) := ⟨.inr (by rw [← word_Texts.bytes]; exact hI8)⟩
                clear hI8 hb8 hf8
                go_wp2
                go_roundw
                case rel => exact ⟨j + 1, x.f0, acc ++ a1 ++ t1, rfl, by first | rfl | go_num, by omega, HG1, HI8, HB8⟩
                case measure => simp [intOf]; omega
              · rw [if_neg hsz] at hg
                cases hg
            · rw [if_neg hnn] at hg
              cases hg
          · obtain rfl : j = l0.length := by omega
            have hg := HG.out
            rw [List.drop_length, block_Pack.go] at hg
            obtain rfl := Option.some.inj hg
            clear hg HG
            go_wp2_with (go_at_call 84; refine (strings_Builder_String_c w1.heap.size w1.heap.size acc.data.toList _ HI.out HB.out.size).mono ?_)
            rintro e w9 ⟨rfl, hb9⟩
            have HB9 := Aside0.mk (HB.out.trans hb9)
            clear hb9
            go_wp2
            go_ret
            exact ⟨rfl, below_step HD.out HB9.out⟩
      · rw [if_neg hz] at h
        cases h
    · rw [if_neg hm] at h
      obtain rfl := Option.some.inj h
      have hm2 : (2147483647 : Int) < (l0.length : Int) := by omega
      have hm3 : 2147483647 < l0.length := by omega
      clear hb h hr0
      go_enter Try.func19, Try.ntmps19
      go_wp2_with (go_at_call 79; refine (fold_Rises.calls k A0 c0 l0 true _ (by first | exact HR.out) hc0 HRS.out).mono ?_; rintro e w1 ⟨rfl, hb1⟩)
      go_ret
      exact ⟨rfl, hb1.below⟩

end Go.Proofs.Ytnklnjghecmihaa.H6
