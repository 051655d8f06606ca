-- written by a program of this session (wip/myprint.py), over the kit's printer and the session's own contracts
import Derived.Test.YtgbnhfppnglamaaQ3x0
import Derived.Test.YtgbnhfppnglamaaQ3x12
import Derived.Test.YtgbnhfppnglamaaQ3x18
namespace Go.Proofs.Ytgbnhfppnglamaa.Q3
open Go.RowKit Go.Proofs.YtgbnhfppnglamaaW.PrintWords Go.Proofs.YtgbnhfppnglamaaW.PrintLast Go.Proofs.YtgbnhfppnglamaaW.PrintMore Go.Proofs.YtgbnhfppnglamaaW.Mine
attribute [local go_sem] max2_int min2_int max_two min_two max_three min_three max_four min_four max2_str min2_str binOp_gtr_str binOp_leq_str binOp_geq_str   -- for this text's walks alone
set_option linter.unusedVariables false
set_option linter.unusedSimpArgs false

/-! ### catchmentlaw13_spans: function 49 -/
open Go.Shelf
attribute [local go_sem] Oper.semAt_some
-- over pivot_Meets
theorem catchmentlaw13_spans.info : (Try.prog.info? 80).map (fun i => (i.zero, i.size, i.bytes)) = some (some (.agg #[(.string ⟨#[]⟩), (.string ⟨#[]⟩)]), 2, 32) := by kernel_rfl
def catchmentlaw13_spans.flat (l : List pivot_All.T) : List Value := l.flatMap fun x => [.string x.2.1, .string x.2.2]
theorem catchmentlaw13_spans.flat_snoc (l : List pivot_All.T) (x : pivot_All.T) : catchmentlaw13_spans.flat (l ++ [x]) = catchmentlaw13_spans.flat l ++ [.string x.2.1, .string x.2.2] := by simp [catchmentlaw13_spans.flat]
def catchmentlaw13_spans.step (s : Bool × Nat) (x : pivot_All.T) : Bool × Nat := (s.1 && decide ((x.1 : Int) = (s.2 : Int)), s.2 + 1)
def catchmentlaw13_spans.st (l : List pivot_All.T) : Bool × Nat := l.foldl catchmentlaw13_spans.step (true, 0)
theorem catchmentlaw13_spans.st_snoc (l : List pivot_All.T) (x : pivot_All.T) : catchmentlaw13_spans.st (l ++ [x]) = catchmentlaw13_spans.step (catchmentlaw13_spans.st l) x := by simp [catchmentlaw13_spans.st]
theorem catchmentlaw13_spans.st_len (l : List pivot_All.T) : (catchmentlaw13_spans.st l).2 = l.length := by
  unfold catchmentlaw13_spans.st
  have : ∀ (l : List pivot_All.T) (s : Bool × Nat), (l.foldl catchmentlaw13_spans.step s).2 = s.2 + l.length := by
    intro l
    induction l with
    | nil => simp
    | cons x l ih => intro s; rw [List.foldl_cons, ih]; simp [catchmentlaw13_spans.step]; omega
  simpa using this l (true, 0)
def catchmentlaw13_spans.f (k : Nat) (l : List ByteArray) (r0 r1 : ByteArray) : Option (List S80 × Bool) := if l.length < 1000000 then (pivot_Right.f k l r0 r1).bind fun right => some ((pivot_All.upto (pivot_All.at l r0 r1) (pivot_All.many right l)).map (fun x => (⟨x.2.1, x.2.2⟩ : S80)), (catchmentlaw13_spans.st (pivot_All.upto (pivot_All.at l r0 r1) (pivot_All.many right l))).1) else none
theorem catchmentlaw13_spans.mono : ∀ a0 a1 a2 k, LeO (catchmentlaw13_spans.f k a0 a1 a2) (catchmentlaw13_spans.f (k + 1) a0 a1 a2) := by
  intro a0 a1 a2 k
  unfold catchmentlaw13_spans.f
  refine LeO.ite (LeO.bind (pivot_Right.mono _ _ _ _) (fun _ => LeO.refl _)) (LeO.none _)
theorem pivot_All.ne_nil (f : Fn) (a b : Array Value) (w : World) : (binOp .eql 143 (.func f a b) .nilFunc).run Try.prog w = .ok (.bool false) w := by
  have hE : (Op.equalIn (9999 + 1) 143 (.func f a b) .nilFunc).run Try.prog w = .ok false w := by
    rw [Op.equalIn]
    simp [go_sem]
  have hE2 : (Op.equalIn Op.maxDepth 143 (.func f a b) .nilFunc).run Try.prog w = .ok false w := hE
  simp [binOp, Op.equal, go_sem, hE2]
theorem catchmentlaw13_spans.slice {W : World} {base : Nat} {e : TypeId} {size : Nat} {v : Value} {n : Nat} {xs : List Value} (h : W.ownsRow base e size v n xs) : ∃ A c, v = .slice A n c := by
  rcases h.2 with ⟨rfl, rfl⟩ | ⟨g, cap, cur, rfl, _⟩
  · exact ⟨_, _, rfl⟩
  · exact ⟨_, _, rfl⟩
theorem catchmentlaw13_spans.reps (w : World) (base : Nat) (ok : Nat → Prop) (l : List pivot_All.T) : Reps (Kd.M k80 w base ok) 2 (l.map (fun x => (⟨x.2.1, x.2.2⟩ : S80))) (catchmentlaw13_spans.flat l) := by
  induction l with
  | nil => exact Reps.none _ _
  | cons x l ih => exact Reps.front (c := [.string x.2.1, .string x.2.2]) (k80_mkM w base ok ⟨x.2.1, x.2.2⟩) rfl ih rfl
theorem catchmentlaw13_spans.two_new (W : World) (x y : Value) (t : TypeId) (B : Nat) (hB : B = W.heap.size) : ∀ j u, [x, y][j]? = some u → (W.alloc (.cells #[x, y] t)).cell? ((⟨B, 0, none⟩ : Addr).add j) = some u := by
  subst hB
  intro j u h
  match j with
  | 0 => simp at h; subst h; exact (pivot_All.Box2.new W t x y).cell0
  | 1 => simp at h; subst h; exact (pivot_All.Box2.new W t x y).cell1
  | j + 2 => simp at h
theorem catchmentlaw13_spans.keepq {W w1 : World} {K O q : Nat} {b v' : Value} {tmp : Obj} {row : Option Nat} (hg : ((W.setCell ⟨K, 0, none⟩ b).alloc tmp).grownBy w1 row) (hq : q < W.heap.size) (h1 : q ≠ K) (h2 : q ≠ O) (h3 : some q ≠ row) : (w1.setCell ⟨O, 0, none⟩ v').heap[q]? = W.heap[q]? :=
  (Below.heap_setCell _ _ _ _ h2).trans ((hg.block q (by simp [World.setCell]; omega) h3).trans ((Below.heap_alloc _ _ _ (by simp [World.setCell]; exact hq)).trans (Below.heap_setCell _ _ _ _ h1)))
theorem catchmentlaw13_spans.keepk {W w1 : World} {K O : Nat} {b v' u : Value} {t : TypeId} {tmp : Obj} {row : Option Nat} (hg : ((W.setCell ⟨K, 0, none⟩ b).alloc tmp).grownBy w1 row) (hk : Boxed W K t u) (h2 : K ≠ O) (h3 : some K ≠ row) : Boxed (w1.setCell ⟨O, 0, none⟩ v') K t b :=
  (Below.heap_setCell _ _ _ _ h2).trans ((hg.block K (by have := hk.lt; simp [World.setCell]; omega) h3).trans ((Below.heap_alloc _ _ _ (by simp [World.setCell]; exact hk.lt)).trans (hk.set b)))
set_option maxRecDepth 100000 in
set_option maxHeartbeats 8000000 in
theorem catchmentlaw13_spans.calls (k : Nat) (A0 : Option Addr) (c0 : Nat) (l0 : List ByteArray) (a1_0 a1_1 : ByteArray) (r1 : List S80) (r2 : Bool) (w : World) (hr0 : Kd.C Kd.string w A0 l0.length l0) (hc0 : l0.length ≤ c0) (h : catchmentlaw13_spans.f k l0 a1_0 a1_1 = some (r1, r2)) :
    Calls Try.prog 49 #[.slice A0 l0.length c0, .agg #[.string a1_0, .string a1_1]] w fun e w' => ∃ v0_ : Value, e = .returned (.tuple #[v0_, .bool r2]) ∧ Kd.R k80 80 w' w.heap.size (fun _ => True) v0_ r1 ∧ Below w.heap.size w w' := by
  have hu80 := Try.underlying80
  have hu82 := Try.underlying82
  have hl : l0.length < 1000000 := by
    unfold catchmentlaw13_spans.f at h
    split at h
    · assumption
    · exact absurd h (by simp)
  unfold catchmentlaw13_spans.f at h
  rw [if_pos hl] at h
  obtain ⟨right, hright, h⟩ := Option.bind_eq_some_iff.1 h
  have HRT := Aside0.mk hright
  have HRES := Aside0.mk h
  have HR0 := Aside0.mk hr0
  have HL := Aside0.mk hl
  clear h hright hr0 hl
  obtain ⟨i0, hi, hz0, hz1, hz2⟩ := info_parts catchmentlaw13_spans.info
  have HI := Aside0.mk (And.intro hi (And.intro hz0 (And.intro hz1 hz2)))
  clear hz0 hz1 hz2
  have hnn := @pivot_All.ne_nil
  refine (callsIn_wide (n := 6)).1 ?_
  refine callsIn_of_wp_marks Try.func49 rfl trivial ?_ rfl
  simp only [Try.ntmps49, List.size_toArray, List.length_cons, List.length_nil, Nat.reduceAdd, Nat.reduceSub, Array.replicate_succ, Array.replicate_zero, List.push_toArray, List.append_toArray, List.nil_append, List.cons_append]
  gi_wp2_with (refine ⟨trivial, ?_⟩; gi_at_call 81; refine (pivot_All.calls A0 c0 l0 a1_0 a1_1 _).mono ?_; rintro e w' ⟨rfl, rfl⟩)
  clear hnn
  have bS := Boxed.new ((((w.alloc (.cells #[.string a1_0, .string a1_1] 80)).alloc (.cells #[] 80)).alloc (.cells #[.slice (some ⟨w.heap.size + 1, 0, none⟩) 0 0] 82)).alloc (.cells #[.bool true] 4)) 35 (.slice A0 l0.length c0)
  have bR := pivot_All.Box2.new (((((w.alloc (.cells #[.string a1_0, .string a1_1] 80)).alloc (.cells #[] 80)).alloc (.cells #[.slice (some ⟨w.heap.size + 1, 0, none⟩) 0 0] 82)).alloc (.cells #[.bool true] 4)).alloc (.cells #[.slice A0 l0.length c0] 35)) 80 (.string a1_0) (.string a1_1)
  have bK := ((Boxed.new (((w.alloc (.cells #[.string a1_0, .string a1_1] 80)).alloc (.cells #[] 80)).alloc (.cells #[.slice (some ⟨w.heap.size + 1, 0, none⟩) 0 0] 82)) 4 (.bool true)).alloc (.cells #[.slice A0 l0.length c0] 35)).alloc (.cells #[.string a1_0, .string a1_1] 80)
  have bO := (((Boxed.new ((w.alloc (.cells #[.string a1_0, .string a1_1] 80)).alloc (.cells #[] 80)) 82 (.slice (some ⟨w.heap.size + 1, 0, none⟩) 0 0)).alloc (.cells #[.bool true] 4)).alloc (.cells #[.slice A0 l0.length c0] 35)).alloc (.cells #[.string a1_0, .string a1_1] 80)
  have bE : ((((((w.alloc (.cells #[.string a1_0, .string a1_1] 80)).alloc (.cells #[] 80)).alloc (.cells #[.slice (some ⟨w.heap.size + 1, 0, none⟩) 0 0] 82)).alloc (.cells #[.bool true] 4)).alloc (.cells #[.slice A0 l0.length c0] 35)).alloc (.cells #[.string a1_0, .string a1_1] 80)).ownsRow w.heap.size 80 2 (.slice (some ⟨w.heap.size + 1, 0, none⟩) 0 0) 0 [] := by
    refine ⟨rfl, .inr ⟨w.heap.size + 1, 0, #[], rfl, by omega, ?_, by omega, by decide, rfl, rfl⟩⟩
    have h0 := World.alloc_heap_new (w.alloc (.cells #[.string a1_0, .string a1_1] 80)) (.cells #[] 80)
    rw [World.size_alloc] at h0
    rw [Below.heap_alloc _ _ _ (by simp), Below.heap_alloc _ _ _ (by simp), Below.heap_alloc _ _ _ (by simp), Below.heap_alloc _ _ _ (by simp)]
    exact h0
  replace bS := bS.alloc (.cells #[.string a1_0, .string a1_1] 80)
  have hB0 : Below w.heap.size w ((((((w.alloc (.cells #[.string a1_0, .string a1_1] 80)).alloc (.cells #[] 80)).alloc (.cells #[.slice (some ⟨w.heap.size + 1, 0, none⟩) 0 0] 82)).alloc (.cells #[.bool true] 4)).alloc (.cells #[.slice A0 l0.length c0] 35)).alloc (.cells #[.string a1_0, .string a1_1] 80)) :=
    ((((((Below.refl _ w).alloc (Nat.le_refl _) _).alloc (by simp) _).alloc (by simp; omega) _).alloc (by simp; omega) _).alloc (by simp; omega) _).alloc (by simp; omega) _
  have hsz : ((((((w.alloc (.cells #[.string a1_0, .string a1_1] 80)).alloc (.cells #[] 80)).alloc (.cells #[.slice (some ⟨w.heap.size + 1, 0, none⟩) 0 0] 82)).alloc (.cells #[.bool true] 4)).alloc (.cells #[.slice A0 l0.length c0] 35)).alloc (.cells #[.string a1_0, .string a1_1] 80)).heap.size = w.heap.size + 6 := by simp
  simp only [World.size_alloc] at bS bR bK bO bE ⊢
  obtain ⟨W0, hW0⟩ : ∃ W0, (((((w.alloc (.cells #[.string a1_0, .string a1_1] 80)).alloc (.cells #[] 80)).alloc (.cells #[.slice (some ⟨w.heap.size + 1, 0, none⟩) 0 0] 82)).alloc (.cells #[.bool true] 4)).alloc (.cells #[.slice A0 l0.length c0] 35)).alloc (.cells #[.string a1_0, .string a1_1] 80) = W0 := ⟨_, rfl⟩
  rw [hW0] at bS bR bK bO bE hB0 hsz ⊢
  clear hW0
  have hmany : pivot_All.many right l0 ≤ 1000000 := by have := HL.out; unfold pivot_All.many; split <;> omega
  refine wpIn_rangeFunc_ownH rfl (by omega) (gf := 96) (lb := #[.pointer (some ⟨w.heap.size + 1 + 1 + 1 + 1, 0, none⟩), .pointer (some ⟨w.heap.size + 1 + 1 + 1 + 1 + 1, 0, none⟩)]) rfl trivial (enters_of Try.func96 (by kernel_rfl) rfl)
    (pivot_All.stops k A0 c0 l0 a1_0 a1_1 right w W0 (w.heap.size + 1 + 1 + 1 + 1) (w.heap.size + 1 + 1 + 1 + 1 + 1) HR0.out hc0 (by have := HL.out; omega) HRT.out hB0 bS.cell bR.cell0 bR.cell1 (by omega) (by omega)) pivot_All.Kp.trans
    (fun W l o o' hl ho hc hw => .of (belowK_b (w := W0) (n₀ := W0.heap.size) (Nat.le_refl _) W l o o' hl ho hc hw) hB0.size (by omega) (by omega)) (Below.refl _ _) (fun _ => rfl)
    (fun pre W => (((∃ v, Boxed W (w.heap.size + 1 + 1) 82 v ∧ W.ownsRow w.heap.size 80 2 v pre.length (catchmentlaw13_spans.flat pre) ∧ v.ownBlock ≠ some (w.heap.size + 1 + 1 + 1 + 1 + 1)) ∧ Boxed W (w.heap.size + 1 + 1 + 1) 4 (.bool (catchmentlaw13_spans.st pre).1)) ∧ Boxed W (w.heap.size + 1 + 1 + 1 + 1) 35 (.slice A0 l0.length c0)) ∧ Below w.heap.size w W ∧ w.heap.size + 6 ≤ W.heap.size)
    (fun _ _ _ => False)
    (OwnFrom.and (OwnFrom.and (OwnFrom.and (Own.from (holdsRow_own w.heap.size (w.heap.size + 1 + 1) 82 80 2 (fun pre => pre.length) (fun pre => catchmentlaw13_spans.flat pre) (fun pre v => v.ownBlock ≠ some (w.heap.size + 1 + 1 + 1 + 1 + 1))) _) (Own.from (boxed_own _ _ _) _)) (Own.from (boxed_own _ _ _) _)) (OwnFrom.and (ownFrom_below (Nat.le_refl _) (by omega)) (pivot_All.size_own _ _)))
    (fun _ _ _ _ _ hs _ _ => hs)
    ⟨⟨⟨⟨_, bO, bE, by simp [Value.ownBlock]⟩, bK⟩, bS⟩, hB0, by omega⟩
    (fun x a' W => ∃ Bx, w.heap.size + 5 < Bx ∧ pivot_All.Box2 W Bx 80 (.string x.2.1) (.string x.2.2) ∧ a' = { tmps := #[.slice A0 l0.length c0, .agg #[.string a1_0, .string a1_1], undef, .pointer (some ⟨w.heap.size, 0, none⟩), .slice none 0 0, .bool false, .pointer (some ⟨w.heap.size + 1 + 1, 0, none⟩), .pointer (some ⟨w.heap.size + 1 + 1 + 1, 0, none⟩), .func (.func 96) #[] #[.pointer (some ⟨w.heap.size + 1 + 1 + 1 + 1, 0, none⟩), .pointer (some ⟨w.heap.size + 1 + 1 + 1 + 1 + 1, 0, none⟩)], .int .i64 (x.1 : Int), .pointer (some ⟨Bx, 0, none⟩), .slice (some ⟨w.heap.size + 1, 0, none⟩) 0 0, .slice A0 l0.length c0, .agg #[.string a1_0, .string a1_1], .func (.func 96) #[] #[.pointer (some ⟨w.heap.size + 1 + 1 + 1 + 1, 0, none⟩), .pointer (some ⟨w.heap.size + 1 + 1 + 1 + 1 + 1, 0, none⟩)], .func (.func 96) #[] #[.pointer (some ⟨w.heap.size + 1 + 1 + 1 + 1, 0, none⟩), .pointer (some ⟨w.heap.size + 1 + 1 + 1 + 1 + 1, 0, none⟩)], .bool false, undef, .func (.func 96) #[] #[.pointer (some ⟨w.heap.size + 1 + 1 + 1 + 1, 0, none⟩), .pointer (some ⟨w.heap.size + 1 + 1 + 1 + 1 + 1, 0, none⟩)], .int .i64 (x.1 : Int), .agg #[.string x.2.1, .string x.2.2], undef, undef, undef, undef, undef, undef, undef, undef, undef, undef, undef, undef, undef], defers := [] })
    (fun x a' _ X Y row hs hg hr => by obtain ⟨Bx, h1, h2, h3⟩ := hs; exact ⟨Bx, h1, pivot_All.box2_own Bx 80 (fun (_ : Unit) => Value.string x.2.1) (fun _ => Value.string x.2.2) () X Y row h2 hg (fun r e => (hr r e).2), h3⟩)
    ?assign ?body ?done ?stop
  case assign =>
    rintro l pre ⟨x1, x2, x3⟩ W K ⟨⟨⟨⟨v, bO1, bE1, hne1⟩, bK1⟩, bS1⟩, hB1, hz1⟩ hK
    dsimp only [pivot_All.enc]
    gi_wp2
    exact hK _ _ ((KeepsOthers.alloc _ _).from _) (.of ((Below.refl W.heap.size W).alloc (Nat.le_refl _) _) hB1.size (by omega) (by omega)) ⟨⟨⟨⟨v, bO1.alloc _, bE1.alloc _, hne1⟩, bK1.alloc _⟩, bS1.alloc _⟩, hB1.alloc hB1.size _, by simp; omega⟩ ⟨W.heap.size, by omega, pivot_All.Box2.new W 80 _ _, rfl⟩
  case body =>
    rintro l pre ⟨x1, x2, x3⟩ a' W hll ⟨r, hr⟩ ⟨⟨⟨⟨v, bO1, bE1, hne1⟩, bK1⟩, bS1⟩, hB1, hz1⟩ ⟨Bx, hBx, bY, rfl⟩ hlt
    have hbs := hB1.size
    have cY0 := bY.cell0
    have cY1 := bY.cell1
    have cK := bK1.cell
    have fK := bK1.frozen
    have cO := bO1.cell
    have fO := bO1.frozen
    have hst := catchmentlaw13_spans.st_snoc pre (x1, x2, x3)
    have hln := catchmentlaw13_spans.st_len pre
    obtain ⟨⟨s1, s2⟩, hs⟩ : ∃ s, catchmentlaw13_spans.st pre = s := ⟨_, rfl⟩
    rw [hs] at cK hst hln bK1
    dsimp only at cK hln bK1
    have HST := Aside0.mk hst
    have HLN := Aside0.mk hln
    have HO := Aside0.mk bO1
    have HE := Aside0.mk bE1
    have HK := Aside0.mk bK1
    have HS := Aside0.mk bS1
    have HY := Aside0.mk bY
    have HB := Aside0.mk hB1
    have HNE := Aside0.mk hne1
    clear hs hst hln bK1 bS1 bY
    obtain ⟨Av, cv, rfl⟩ := catchmentlaw13_spans.slice bE1
    clear bO1 bE1 hne1 hB1
    obtain ⟨hz0, hz1', hz2⟩ := HI.out.2
    have hkr := (HK.out.not_row (by decide) HE.out).symm
    have hsr := (HS.out.not_row (by decide) HE.out)
    have hor := (HO.out.not_row (by decide) HE.out)
    have HKR := Aside0.mk hkr
    have HSR := Aside0.mk hsr
    clear hkr hsr hor
    gi_wp2_with (gi_at_builtin; refine wpListIn_append_own_at _ rfl _ _ 82 rfl w.heap.size 80 i0 _ 2 32 hu82 hi hz0 hz1' hz2 rfl (by decide) _ _ _ rfl ((HE.out.kept (grownBy_setCell' W _ _) (.inr HKR.out)).alloc _) ⟨W.heap.size, 0, none⟩ 1 1 [.string x2, .string x3] rfl rfl (catchmentlaw13_spans.two_new _ _ _ _ _ (by simp [World.setCell])) (by simp [Value.oneCell']) (by simp only [maxLen]; omega) (by omega) (by simp [World.setCell]; omega) ?_; intro v' w1 hown' hgrow _ hblk; obtain ⟨g', cap', rfl⟩ := ownsRow_succ hown'; have hv1 := ((HO.out.other (B' := w.heap.size + 1 + 1 + 1) (by omega) _).appended (by decide) (HE.out.kept (grownBy_setCell' W _ _) (.inr HKR.out)) (by simp [World.setCell]; omega) (by omega) hown' hgrow); have HA := Aside0.mk hv1; have HG := Aside0.mk hgrow; have HBK := Aside0.mk hblk; have HOW := Aside0.mk hown'; have hc1 := hv1.1.cell; have hf1 := hv1.1.frozen; clear hv1 hgrow hblk hown')
    all_goals
      have hg := HG.out
      have hbk := HBK.out
      have hkr := HKR.out.symm
      have hsr := HSR.out
      have hne := HNE.out
      have hszW : (W.setCell ⟨w.heap.size + 1 + 1 + 1, 0, none⟩ (.bool false)).heap.size = W.heap.size := by simp [World.setCell]
      obtain ⟨a1, a2, a3, a4, a5⟩ := HA.out
      refine ⟨((KeepsOthers.setCell _ _ _).trans a4).from _, ⟨((Below.refl _ W).setCell (p := ⟨w.heap.size + 1 + 1 + 1, 0, none⟩) (by simp; omega) _).trans a5, catchmentlaw13_spans.keepq hg (by omega) (by omega) (by omega) hsr, catchmentlaw13_spans.keepq hg (by omega) (by omega) (by omega) hne.symm⟩,
        ⟨⟨⟨_, a2, by rw [catchmentlaw13_spans.flat_snoc, List.length_append]; exact a3, ?_⟩, ?_⟩, (catchmentlaw13_spans.keepq hg (by omega) (by omega) (by omega) hsr).trans HS.out⟩, HB.out.trans (((Below.refl _ W).setCell (p := ⟨w.heap.size + 1 + 1 + 1, 0, none⟩) (by simp; omega) _).trans a5), ?_⟩
    · rcases hbk with h | h
      · rw [h]; exact hne
      · rw [h]; simp [World.setCell]; omega
    · have e : (catchmentlaw13_spans.st (pre ++ [(x1, x2, x3)])).1 = ((x1 : Int) == (pre.length : Int)) := by
        have hs1 : s1 = true := by assumption
        rw [HST.out]
        simp only [catchmentlaw13_spans.step, hs1, HLN.out, Bool.true_and]
        rfl
      rw [e]
      exact catchmentlaw13_spans.keepk hg HK.out (by omega) hkr
    · have := a5.size
      simp [World.setCell] at this ⊢
      omega
    · rcases hbk with h | h
      · rw [h]; exact hne
      · rw [h]; simp [World.setCell]; omega
    · have e : (catchmentlaw13_spans.st (pre ++ [(x1, x2, x3)])).1 = false := by
        have hs1 : ¬s1 = true := by assumption
        rw [HST.out]
        simp [catchmentlaw13_spans.step, hs1]
      rw [e]
      exact catchmentlaw13_spans.keepk hg HK.out (by omega) hkr
    · have := a5.size
      simp [World.setCell] at this ⊢
      omega
  case done =>
    rintro D zs W hD rfl ⟨⟨⟨⟨v, bO1, bE1, hne1⟩, bK1⟩, bS1⟩, hB1, hz1⟩ hK
    have hres := HRES.out
    rw [Option.some.injEq, Prod.mk.injEq] at hres
    obtain ⟨rfl, hr2⟩ := hres
    rw [hr2] at bK1
    have cO := bO1.cell
    have cK := bK1.cell
    clear hr2
    gi_wp2
    gi_region
    gi_wp2
    refine ⟨by simp, .inl ⟨_, _, rfl, run_takeDeferred hK, ?_⟩⟩
    refine ⟨_, results_tmp2 rfl _ _ _, _, rfl, ?_, hB1.drew.trans (belowK_b (w := w) (Nat.le_refl _) W.drew D _ _ (by omega) hK rfl rfl)⟩
    show Kd.R k80 80 _ _ _ v _
    refine ⟨fun _ _ => trivial, catchmentlaw13_spans.flat _, ?_, catchmentlaw13_spans.reps _ _ _ _⟩
    rw [List.length_map]
    exact ownsRow_putObj (W := W.drew) bE1 (.deferred none) hK rfl
  case stop =>
    rintro D c pre W _ _ h _
    exact h.elim

end Go.Proofs.Ytgbnhfppnglamaa.Q3
