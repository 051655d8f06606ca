/- Small lemmas on rows and rows of rows, for contracts of the library's slices functions, over any program. No condition. -/
import Derived.Test.YtpfikmchimlneaaWWords
import Derived.Test.YtpfikmchimlneaaWArr
import Derived.Test.YtpfikmchimlneaaWZeros
import Derived.Test.YtpfikmchimlneaaMine
import Derived.ArgAppend
import Derived.Lib.AppendZeros
import Derived.Lib.AppendZerosOnto
set_option linter.unusedVariables false
set_option linter.unusedSimpArgs false
namespace Go.Proofs.YtpfikmchimlneaaW.Sl
open Go.RowKit Go.Proofs.YtpfikmchimlneaaW.PrintWords Go.Proofs.YtpfikmchimlneaaW.PrintWords.Kd
/-- A row's element that is a row. -/
theorem C_row {α : Type} {d : Kd α} {e : Nat} {w : World} {A : Option Addr} {n : Nat} {ls : List (List α)} (h : Kd.C (Kd.slice e d) w A n ls) (i : Nat) (hi : i < n) :
    ∃ ad A' c', A = some ad ∧ w.cell? (ad.add i) = some (.slice A' (ls.getD i []).length c') ∧ (ls.getD i []).length ≤ c' ∧ d.C w A' (ls.getD i []).length (ls.getD i []) := by
  obtain ⟨ad, c, hA, hc, hK, hcell⟩ := ReadsRow.get_ h [] (i : Int) (by omega) (by omega)
  obtain ⟨A', c', rfl, hl, hC⟩ := hK
  refine ⟨ad, A', c', hA, ?_, hl, hC⟩
  have := hcell 0 _ rfl
  simpa [Kd.slice] using this
/-- Zeros on nil, of which none is kept: an empty row of the call's own. -/
theorem grown_nil {α : Type} (d : Kd α) {W : World} (e : TypeId) (cells : Array Value) (cap : Nat) (hm : cap ≤ maxLen) (hs : cells.size = cap * d.sz) :
    d.R e (W.alloc (.cells cells e)) W.heap.size (fun _ => True) (.slice (some ⟨W.heap.size, 0, none⟩) 0 cap) [] :=
  ⟨fun _ _ => trivial, [], World.ownsRow_made W cells cap (Nat.le_refl _) hm hs, Reps.none _ _⟩
/-- A kind whose values lead to no row: what is read may be made of it. -/
def Flat {α : Type} (d : Kd α) : Prop := ∀ w base ok x cs, d.K w x cs → d.M w base ok x cs
theorem Flat.any {α : Type} {d : Kd α} (hd : Flat d) {w : World} {x : α} {cs : List Value} (h : d.K w x cs) (w1 : World) (base : Nat) (ok : Nat → Prop) : d.M w1 base ok x cs :=
  d.M_mono (fun _ h => h.elim) (d.M_move (fun _ h => h.elim) (hd w base (fun _ => False) x cs h))
theorem Flat.of_M {α : Type} {d : Kd α} (hd : Flat d) {w : World} {b : Nat} {o : Nat → Prop} {x : α} {cs : List Value} (h : d.M w b o x cs) (w1 : World) (base : Nat) (ok : Nat → Prop) : d.M w1 base ok x cs :=
  hd.any (d.K_of_M h) w1 base ok
theorem flat_scalar {α : Type} (enc : α → Value) (h1 : ∀ x, (enc x).oneCell' = true) : Flat (Kd.scalar enc h1) := fun _ _ _ _ _ h => h
theorem flat_pair {α β : Type} {a : Kd α} {b : Kd β} (ha : Flat a) (hb : Flat b) : Flat (Kd.pair a b) := by
  rintro w base ok x cs ⟨c0, c1, rfl, h0, h1⟩
  exact ⟨c0, c1, rfl, ha _ _ _ _ _ h0, hb _ _ _ _ _ h1⟩
theorem flat_iso {α β : Type} {a : Kd α} (ha : Flat a) (f : β → α) : Flat (Kd.iso a f) := fun w base ok x cs h => ha w base ok (f x) cs h
theorem flat_int (k : IntKind) : Flat (Kd.int k) := flat_scalar _ _
theorem flat_bool : Flat Kd.bool := flat_scalar _ _
theorem flat_string : Flat Kd.string := flat_scalar _ _
/-- What Insert's two copies leave. -/
theorem ins_one {α : Type} (l x : List α) (z : α) (i : Nat) (hx : x.length = 1) (hi : i < l.length) : (l.take i ++ List.replicate (l.length + 1 - i) z).take i ++ x ++ (l.take i ++ List.replicate (l.length + 1 - i) z).drop (i + 1) = l.take i ++ x ++ List.replicate (l.length - i) z := by
  have h1 : (l.take i).length = i := by rw [List.length_take]; omega
  rw [List.take_left' h1, List.drop_append, h1, List.drop_eq_nil_of_le (by omega), List.nil_append, List.drop_replicate]
  congr 2
  omega
theorem ins_two {α : Type} (l x : List α) (z : α) (i : Nat) (hx : x.length = 1) (hi : i < l.length) : (l.take i ++ x ++ List.replicate (l.length - i) z).take (i + 1) ++ l.drop i ++ (l.take i ++ x ++ List.replicate (l.length - i) z).drop (i + 1 + (l.length - i)) = l.take i ++ x ++ l.drop i := by
  have h1 : (l.take i ++ x).length = i + 1 := by rw [List.length_append, List.length_take, hx]; omega
  have h2 : (l.take i ++ x ++ List.replicate (l.length - i) z).drop (i + 1 + (l.length - i)) = [] := List.drop_eq_nil_of_le (by rw [List.length_append, h1, List.length_replicate]; omega)
  rw [List.take_left' h1, h2, List.append_nil]
theorem ins_len {α : Type} (l x : List α) (z : α) (i : Nat) (hx : x.length = 1) (hi : i < l.length) : (l.take i ++ x ++ List.replicate (l.length - i) z).length = l.length + 1 := by
  rw [List.length_append, List.length_append, List.length_take, List.length_replicate, hx]
  omega
section
variable {P : Program} {α : Type}
/-- copy into a row of one's own, elements of any size. -/
theorem run_copy_rowN (w : World) (dT sT ty elem : TypeId) (g o dLen dCap : Nat) (a : Addr) (sLen sCap sz : Nat) (cur : Array Value) (t : TypeId) (cs : List Value)
    (hu : P.underlying dT = some (.slice elem)) (hs : (P.info? elem).map (·.size) = some sz)
    (hg : w.heap[g]? = some (.cells cur t (0, 0))) (hn : cs.length = Nat.min sLen dLen * sz)
    (hsrc : ∀ j v, cs[j]? = some v → w.cell? (a.add j) = some v) (hfit : o + cs.length ≤ cur.size) (h1 : ∀ v ∈ cs, v.oneCell' = true) :
    (Builtin.copy_ #[dT, sT] ty #[.slice (some ⟨g, o, none⟩) dLen dCap, .slice (some a) sLen sCap]).run P w =
      .ok (goInt (Nat.min sLen dLen)) (w.setRow g (cur.toList.take o ++ cs ++ cur.toList.drop (o + cs.length)).toArray) := by
  have hl := run_loadCells_list (P := P) w a cs hsrc
  have hst := run_storeCells_at P g o t cs 0 cur w hg (by simpa using hfit) h1
  cases hq : P.info? elem with
  | none => simp [hq] at hs
  | some i =>
    have hi : i.size = sz := by simpa [hq] using hs
    subst hi
    simp [Builtin.copy_, run_underlying hu, Builtin.lenOf, Builtin.firstCells, sizeOf, typeInfo, hq, ← hn, hl, hst]
theorem run_copy_noneN (w : World) (dT sT ty elem : TypeId) (d : Addr) (dLen dCap sCap sz : Nat) (hu : P.underlying dT = some (.slice elem)) (hs : (P.info? elem).map (·.size) = some sz) :
    (Builtin.copy_ #[dT, sT] ty #[.slice (some d) dLen dCap, .slice none 0 sCap]).run P w = .ok (goInt 0) w := by
  cases hq : P.info? elem with
  | none => simp [hq] at hs
  | some i => simp [Builtin.copy_, run_underlying hu, Builtin.lenOf, Builtin.firstCells, sizeOf, typeInfo, hq, storeCells]
theorem inner_copy {CL cs : List Value} {n O : Nat} (h : O + cs.length ≤ n) (hn : n ≤ CL.length) : (CL.take O ++ cs ++ CL.drop (O + cs.length)).take n = (CL.take n).take O ++ cs ++ (CL.take n).drop (O + cs.length) := by
  have hl : (CL.take O ++ cs).length = O + cs.length := by rw [List.length_append, List.length_take]; omega
  rw [List.take_append, List.take_of_length_le (by omega), hl, List.drop_take, List.take_take, Nat.min_eq_left (by omega)]
/-- copy(v[o:], src), where src fits in. -/
theorem R_copy_run (d : Kd α) (hd : Flat d) (hs0 : 0 < d.sz) {W : World} {base : Nat} {ok : Nat → Prop} (t t' ty e : TypeId) (ht : P.underlying t = some (.slice e)) (hsz : (P.info? e).map (·.size) = some d.sz) {g N cap : Nat} {xs ys : List α}
    (HO : d.R e W base ok (.slice (some ⟨g, 0, none⟩) N cap) xs) (hN : xs.length = N) (o O dc : Nat) (hO : O = o * d.sz) {A : Option Addr} {m c : Nat} (HR : d.C W A m ys) (hom : o + m ≤ N) :
    ∃ n w1, (Builtin.copy_ #[t, t'] ty #[.slice (some ⟨g, O, none⟩) (N - o) dc, .slice A m c]).run P W = .ok n w1 ∧ d.R e w1 base ok (.slice (some ⟨g, 0, none⟩) N cap) (xs.take o ++ ys ++ xs.drop (o + m)) ∧ W.grownBy w1 (some g) := by
  subst hO
  have hm : ys.length = m := HR.1
  rcases A with _ | ad
  · have h0 : m = 0 := by
      rcases Nat.eq_zero_or_pos m with h0 | h0
      · exact h0
      · obtain ⟨ad, h, _⟩ := HR.2.2 h0
        cases h
    subst h0
    obtain rfl : ys = [] := List.eq_nil_of_length_eq_zero hm
    refine ⟨_, _, run_copy_noneN W t t' ty e _ _ _ _ d.sz ht hsz, ?_, World.grownBy.refl W _⟩
    rw [List.append_nil, Nat.add_zero, List.take_append_drop]
    exact HO
  · obtain ⟨hok, inner, ⟨ho1, ho2⟩, hr⟩ := HO
    rcases ho2 with ⟨h, _⟩ | ⟨g', cap', cur, he, hb, hheap, hnc, hcm, hsize, htake⟩
    · simp at h
    · simp only [Value.slice.injEq, Option.some.injEq, Addr.mk.injEq, true_and, and_true] at he
      obtain ⟨rfl, _, rfl⟩ := he
      obtain ⟨news, hnr, hnc2⟩ := ReadsRow.inner_ HR
      have hnl : news.length = m * d.sz := by rw [hnr.1, hm]
      rw [hN] at htake ho1 hnc
      have hseg : o * d.sz + news.length ≤ N * d.sz := by rw [hnl, ← Nat.add_mul]; exact Nat.mul_le_mul_right _ hom
      have hcur : N * d.sz ≤ cur.size := by rw [hsize]; exact Nat.mul_le_mul_right _ hnc
      have hone : ∀ u ∈ news, u.oneCell' = true := reps_one hnr hs0 (fun _ _ hp => d.K_one hp)
      have hmin : Nat.min m (N - o) = m := Nat.min_eq_left (by omega)
      have hl2 : (xs.take o ++ ys ++ xs.drop (o + m)).length = N := by
        simp only [List.length_append, List.length_take, List.length_drop, hN, hm]
        omega
      have hrun := run_copy_rowN (P := P) W t t' ty e g (o * d.sz) (N - o) dc ad m c d.sz cur e news ht hsz hheap (by rw [hmin, hnl]) hnc2 (by omega) hone
      refine ⟨_, _, hrun, ⟨hok, inner.take (o * d.sz) ++ news ++ inner.drop ((o + m) * d.sz), ⟨?_, .inr ⟨g, cap, _, by rw [hl2], hb, setRow_heap W g cur _ e (0, 0) hheap, ?_, hcm, ?_, ?_⟩⟩, ?_⟩, ⟨rfl, rfl, rfl, by simp [World.setRow], fun k hk hne => setRow_other W g k _ (fun h => hne (by rw [h]))⟩⟩
      · simp only [List.length_append, List.length_take, List.length_drop, ho1, hnl, hN, hm, Nat.add_mul]
        rw [Nat.min_eq_left (by omega : o ≤ N), Nat.min_eq_left (Nat.mul_le_mul_right _ (by omega : o ≤ N)), Nat.sub_mul, Nat.add_mul]
      · simp only [List.length_append, List.length_take, List.length_drop, hN, hm]
        omega
      · simp only [List.size_toArray, List.length_append, List.length_take, List.length_drop, Array.length_toList]
        omega
      · rw [List.toList_toArray]
        rw [hl2, inner_copy hseg (by simpa using hcur), htake, hnl, ← Nat.add_mul]
      · have hMx : Reps (d.M (W.setRow g (cur.toList.take (o * d.sz) ++ news ++ cur.toList.drop (o * d.sz + news.length)).toArray) base (fun k => ok k ∧ some k ≠ (Value.slice (some ⟨g, 0, none⟩) N cap).ownBlock)) d.sz xs inner := hr.imp_ (fun _ _ hp => hd.of_M hp _ _ _)
        have hMy : Reps (d.M (W.setRow g (cur.toList.take (o * d.sz) ++ news ++ cur.toList.drop (o * d.sz + news.length)).toArray) base (fun k => ok k ∧ some k ≠ (Value.slice (some ⟨g, 0, none⟩) N cap).ownBlock)) d.sz ys news := hnr.imp_ (fun _ _ hp => hd.any hp _ _ _)
        exact reps_append (reps_append (reps_take hMx (by omega)) hMy) (reps_drop hMx)
/-- append(s, ys...), where s is no row of one's own and has no room. -/
theorem R_append_run (d : Kd α) (hd : Flat d) (hs0 : 0 < d.sz) {W : World} (t ty e : TypeId) (z : Value) (bytes : Nat) (ht : P.underlying t = some (.slice e)) (hinfo : (P.info? e).map (fun i => (i.zero, i.size, i.bytes)) = some (some z, d.sz, bytes)) (hz : z.cells.size = d.sz) (hb0 : 0 < bytes)
    {xs ys : List α} {A : Option Addr} {n cap : Nat} (HX : d.C W A n xs) (hA : A = none → cap = 0) {ad : Addr} {m c : Nat} (HY : d.C W (some ad) m ys) (hfull : cap < n + m) (hl : (n + m) * bytes ≤ 140737488355328) :
    ∃ v' w', (Builtin.append_ #[t, t] ty #[.slice A n cap, .slice (some ad) m c]).run P W = .ok v' w' ∧ d.R e w' W.heap.size (fun _ => True) v' (xs ++ ys) ∧ Below W.heap.size W w' := by
  obtain ⟨i0, hi, hzz⟩ := Option.map_eq_some_iff.1 hinfo
  simp only [Prod.mk.injEq] at hzz
  obtain ⟨hz0, hz1, hz2⟩ := hzz
  have hlen : n + m ≤ 140737488355328 := Nat.le_trans (Nat.le_mul_of_pos_right _ hb0) hl
  have hm : ys.length = m := HY.1
  have hn : xs.length = n := HX.1
  obtain ⟨news, hnr, hnc⟩ := ReadsRow.inner_ HY
  have hone : ∀ u ∈ news, u.oneCell' = true := reps_one hnr hs0 (fun _ _ hp => d.K_one hp)
  have fin : ∀ {v' : Value} {w' : World} {olds : List Value}, Reps (d.K W) d.sz xs olds → w'.ownsRow W.heap.size e d.sz v' (n + m) (olds ++ news) → W.grownBy w' none → d.R e w' W.heap.size (fun _ => True) v' (xs ++ ys) ∧ Below W.heap.size W w' := by
    intro v' w' olds hor hown hg
    refine ⟨⟨fun _ _ => trivial, olds ++ news, by rw [List.length_append, hn, hm]; exact hown, reps_append (hor.imp_ (fun _ _ hp => hd.any hp _ _ _)) (hnr.imp_ (fun _ _ hp => hd.any hp _ _ _))⟩, ⟨hg.os, hg.tape, hg.output, hg.size, fun k hk => hg.block k hk (by simp)⟩⟩
  rcases A with _ | b
  · have h0 : n = 0 := by
      rcases Nat.eq_zero_or_pos n with h0 | h0
      · exact h0
      · obtain ⟨ad, h, _⟩ := HX.2.2 h0
        cases h
    subst h0
    have hc0 := hA rfl
    subst hc0
    obtain rfl : xs = [] := List.eq_nil_of_length_eq_zero hn
    obtain ⟨v', w', hrun, r1, r2, _⟩ := run_append_own (P := P) W W.heap.size t ty e i0 z d.sz bytes ht hi hz0 hz1 hz2 hz hs0 (.slice none 0 0) 0 [] (World.ownsRow_nil W _ e d.sz) ad m c news (by rw [hnr.1, hm]) hnc hone (by simp only [maxLen]; omega) hl (Nat.le_refl _)
    obtain ⟨h1, h2⟩ := fin (Reps.none _ _) r1 r2
    exact ⟨v', w', hrun, h1, h2⟩
  · obtain ⟨olds, hor, hoc⟩ := ReadsRow.inner_ HX
    obtain ⟨v', w', hrun, r1, r2⟩ := run_append_arg_grows (P := P) W t ty e i0 z d.sz bytes ht hi hz0 hz1 hz2 hz hs0 b n cap olds (by rw [hor.1, hn]) hoc ad m c news (by rw [hnr.1, hm]) hnc hfull (by simp only [maxLen]; omega) hl
    obtain ⟨h1, h2⟩ := fin hor r1 r2
    exact ⟨v', w', hrun, h1, h2⟩
/-- append(s[:n], make([]T, k)...), where s is no row of one's own and has no room. -/
theorem R_zeros_grow (d : Kd α) (hd : Flat d) (hs0 : 0 < d.sz) {W : World} (t ti ty e : TypeId) (z : Value) (bytes : Nat) (ht : P.underlying t = some (.slice e)) {kn : IntKind} (hti : P.underlying ti = some (.int kn)) (hinfo : (P.info? e).map (fun i => (i.zero, i.size, i.bytes)) = some (some z, d.sz, bytes)) (hz : z.cells.size = d.sz) (hb0 : 0 < bytes)
    {xs : List α} {z0 : α} {ad : Addr} {n cap : Nat} (HX : d.C W (some ad) n xs) (hz0 : ∀ w, d.K w z0 z.cells.toList) (k : Nat) (hk : 0 < k) (hfull : cap < n + k) (hl : (n + k) * bytes ≤ 140737488355328) (kx : IntKind) :
    ∃ v' w', (Builtin.append_ #[t, ti] ty #[.slice (some ad) n cap, .int kx (k : Int)]).run P W = .ok v' w' ∧ ∃ cap', v' = .slice (some ⟨W.heap.size, 0, none⟩) (n + k) cap' ∧ d.R e w' W.heap.size (fun _ => True) (.slice (some ⟨W.heap.size, 0, none⟩) (n + k) cap') (xs ++ List.replicate k z0) ∧ Below W.heap.size W w' ∧ n + k ≤ cap' := by
  obtain ⟨i0, hi, hzz⟩ := Option.map_eq_some_iff.1 hinfo
  simp only [Prod.mk.injEq] at hzz
  obtain ⟨hzz0, hz1, hz2⟩ := hzz
  have hlen : n + k ≤ 140737488355328 := Nat.le_trans (Nat.le_mul_of_pos_right _ hb0) hl
  have hn : xs.length = n := HX.1
  obtain ⟨olds, hor, hoc⟩ := ReadsRow.inner_ HX
  have hol : olds.length = n * i0.size := by rw [hor.1, hn, hz1]
  have hfc := run_firstCells_some (P := P) W.drew i0.size n ad n cap olds hol (fun j v hj => by simpa using hoc j v hj)
  have hkb : k * i0.bytes ≤ 140737488355328 := by rw [hz2]; exact Nat.le_trans (Nat.mul_le_mul_right _ (Nat.le_add_left k n)) hl
  have hfit := growslice_fits (bytes := i0.bytes) hfull (by rw [hz2]; exact hl)
  have hrun := Lib.run_append_grow_zeros (P := P) W t ti ty e i0 z kx kn ht hti hi hzz0 (some ad) n cap olds hfc k hk (by rw [hz1]; exact hs0) hfull (by omega) (by omega) (by omega)
  have hge := grownCap_ge W (n + k) cap e
  have hcm := grownCap_le_maxLen W (n + k) cap e (by simp only [maxLen]; omega)
  refine ⟨_, _, hrun, _, rfl, ⟨fun _ _ => trivial, olds ++ (Builtin.zeroCells z.cells k).toList, ⟨?_, .inr ⟨W.heap.size, _, _, by rw [List.length_append, List.length_replicate, hn], Nat.le_refl _, heap_alloc_new W.drew _, ?_, hcm, ?_, ?_⟩⟩, ?_⟩, ((Below.refl _ W).drew).alloc (Nat.le_refl _) _, hge⟩
  · simp [size_zeroCells, hz, hol, hz1, hn, Nat.add_mul]
  · simp only [List.length_append, List.length_replicate, hn]
    exact hge
  · simp only [Array.size_append, List.size_toArray, size_zeroCells, hz, hol, hz1, ← Nat.add_mul]
    congr 1
    omega
  · have h1 : (xs ++ List.replicate k z0).length * d.sz = (olds ++ (Builtin.zeroCells z.cells k).toList).length := by simp [size_zeroCells, hz, hol, hz1, hn, Nat.add_mul]
    rw [h1]
    simp only [Array.toList_append]
    exact List.take_left
  · exact reps_append (hor.imp_ (fun _ _ hp => hd.any hp _ _ _)) ((reps_zeros (R := d.K W) hz hs0 (hz0 W) k).imp_ (fun _ _ hp => hd.any hp _ _ _))
variable {ops : Array Oper} {rest : List Oper} {o : Oper} {a : Act} {Q : Exit → Act → World → Prop} {K : Act → World → Prop} {E : Prop} {Φ : Value → World → Prop}
/-- A builtin whose run is known: append, copy; as a step of a region, too. -/
theorem wpList_append_ex (w : World) (hgd : o.guard = none) (s x : Operand) (t t' : TypeId) (ho : o.op = .call { callee := .builtin .append, args := #[s, x], argTypes := #[t, t'] }) (vs vx : Value) (hs : a.eval s = vs) (hx : a.eval x = vx)
    (hr : ∃ v' w', (Builtin.append_ #[t, t'] o.type #[vs, vx]).run P w = .ok v' w' ∧ Φ v' w') (h : ∀ v' w', Φ v' w' → wpList P ops Q rest (a.put o.dst v') w') : wpList P ops Q (o :: rest) a w := by
  obtain ⟨v', w', hr, hp⟩ := hr
  refine wpList_plain hgd fun K hK => ?_
  unfold Oper.wp execOp
  simp only [ho, resolve, invoke, builtin, Sem.run_bind, Sem.run_pure, Result.andThen_ok, List.map_toArray, List.map_cons, List.map_nil, hs, hx, hr]
  exact hK _ _ (h v' w' hp)
theorem wpList_copy_ex (w : World) (hgd : o.guard = none) (s x : Operand) (t t' : TypeId) (ho : o.op = .call { callee := .builtin .copy, args := #[s, x], argTypes := #[t, t'] }) (vs vx : Value) (hs : a.eval s = vs) (hx : a.eval x = vx)
    (hr : ∃ v' w', (Builtin.copy_ #[t, t'] o.type #[vs, vx]).run P w = .ok v' w' ∧ Φ v' w') (h : ∀ v' w', Φ v' w' → wpList P ops Q rest (a.put o.dst v') w') : wpList P ops Q (o :: rest) a w := by
  obtain ⟨v', w', hr, hp⟩ := hr
  refine wpList_plain hgd fun K hK => ?_
  unfold Oper.wp execOp
  simp only [ho, resolve, invoke, builtin, Sem.run_bind, Sem.run_pure, Result.andThen_ok, List.map_toArray, List.map_cons, List.map_nil, hs, hx, hr]
  exact hK _ _ (h v' w' hp)
theorem step_copy_ex (w : World) (hgd : o.guard = none) (s x : Operand) (t t' : TypeId) (ho : o.op = .call { callee := .builtin .copy, args := #[s, x], argTypes := #[t, t'] }) (vs vx : Value) (hs : a.eval s = vs) (hx : a.eval x = vx)
    (hr : ∃ v' w', (Builtin.copy_ #[t, t'] o.type #[vs, vx]).run P w = .ok v' w' ∧ Φ v' w') (h : ∀ v' w', Φ v' w' → K (a.put o.dst v') w') : if Region.wanted o (yielded ops a.tmps) = true then Oper.wp P o a w K Q else E := by
  obtain ⟨v', w', hr, hp⟩ := hr
  have hw : Region.wanted o (yielded ops a.tmps) = true := by simp [Region.wanted, hgd]
  rw [if_pos hw]
  unfold Oper.wp execOp
  simp only [ho, resolve, invoke, builtin, Sem.run_bind, Sem.run_pure, Result.andThen_ok, List.map_toArray, List.map_cons, List.map_nil, hs, hx, hr]
  exact h v' w' hp
/-- make(T, 0, n) runs. -/
theorem mk_cap (t e : TypeId) (z : Value) (bytes : Nat) {sz : Nat} (ht : P.underlying t = some (.slice e)) (hinfo : (P.info? e).map (fun i => (i.zero, i.size, i.bytes)) = some (some z, sz, bytes)) (n : Nat) (hl : bytes * n ≤ 140737488355328) (hn : n ≤ 140737488355328 := by omega) :
    ∀ W : World, (Instr.makeSlice t (.int .i64 0) (.int .i64 (n : Int))).run P W = .ok (.slice (some ⟨W.heap.size, 0, none⟩) 0 n) (W.alloc (.cells (madeCells z.cells (n * sz)) e)) := by
  intro W
  obtain ⟨i0, hi, hzz⟩ := Option.map_eq_some_iff.1 hinfo
  simp only [Prod.mk.injEq] at hzz
  obtain ⟨hz0, hz1, hz2⟩ := hzz
  have hr := run_make (P := P) W t e i0 z ht hi hz0 .i64 .i64 0 (n : Int) (by omega) (by omega)
    (by
      have h3 : ((i0.bytes * n : Nat) : Int) ≤ 281474976710656 := by rw [hz2]; omega
      rwa [Int.natCast_mul] at h3) (by omega)
  simpa [hz1] using hr
theorem C_take {d : Kd α} {w : World} {A : Option Addr} {n : Nat} {xs : List α} (h : d.C w A n xs) (m : Nat) (hm : m ≤ n) : d.C w A m (xs.take m) :=
  ⟨by rw [List.length_take, h.1]; omega, by have := h.2.1; omega, fun h0 => by
    obtain ⟨ad, e, hc⟩ := h.2.2 (by omega)
    refine ⟨ad, e, fun j p hj => hc j p ?_⟩
    rw [List.getElem?_take] at hj
    split at hj
    · exact hj
    · cases hj⟩
theorem C_drop {d : Kd α} {w : World} {ad : Addr} {n : Nat} {xs : List α} (h : d.C w (some ad) n xs) (m M : Nat) (hM : M = m * d.sz) (hm : m ≤ n) : d.C w (some (ad.add M)) (n - m) (xs.drop m) :=
  ⟨by rw [List.length_drop, h.1], by have := h.2.1; omega, fun h0 => by
    obtain ⟨ad', e, hc⟩ := h.2.2 (by omega)
    cases e
    refine ⟨_, rfl, fun j p hj => ?_⟩
    rw [List.getElem?_drop] at hj
    obtain ⟨c, h1, h2, h3⟩ := hc (m + j) p hj
    refine ⟨c, h1, h2, fun i u hi => ?_⟩
    rw [← h3 i u hi, Addr.add_add, hM, Nat.add_mul, Nat.add_assoc]⟩
end
end Go.Proofs.YtpfikmchimlneaaW.Sl
