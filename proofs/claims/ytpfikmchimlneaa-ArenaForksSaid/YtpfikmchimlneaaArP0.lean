/- The law's deeds in memory; an arena with which both sides begin. -/
import Derived.Test.YtpfikmchimlneaaArAny
set_option linter.unusedVariables false
set_option linter.unusedSimpArgs false
namespace Go.Proofs.Ytpfikmchimlneaa.Ar
open Go.Proofs.YtpfikmchimlneaaW.Mine Go.RowKit Go.Proofs.YtpfikmchimlneaaW.PrintWords Go.Proofs.YtpfikmchimlneaaW.PrintWords.Kd Go.Proofs.YtpfikmchimlneaaW.PrintLast Go.Proofs.YtpfikmchimlneaaW.PrintMore Go.Proofs.YtpfikmchimlneaaW.Sl Go.Proofs.YtpfikmchimlneaaW.Ar
variable {B g : Nat} {w W V W' : World} {X X' : Array Value} {r r' : Rf} {v v' : Value} {s s' : St Int}
def kd46 : Kd (Int × Int × Int) := Kd.iso (Kd.pair (Kd.int .i64) (Kd.pair (Kd.int .i64) (Kd.int .i64))) id
theorem kd46_open {x : Int × Int × Int} {cs : List Value} (h : kd46.K w x cs) : cs = [.int .i64 x.1, .int .i64 x.2.1, .int .i64 x.2.2] := by
  obtain ⟨c0, c1, rfl, h0, c2, c3, rfl, h2, h3⟩ := h
  simp only [Kd.scalar, Kd.int] at h0 h2 h3
  subst h0 h2 h3
  rfl
/-- the deed i -/
theorem deed_at {A : Option Addr} {n : Nat} {l : List (Int × Int × Int)} (h : kd46.C W A n l) (i : Nat) (hi : i < n) : ∃ ad, A = some ad ∧
    W.cell? (ad.add (i * 3)) = some (.int .i64 (l.getD i (0, 0, 0)).1) ∧ W.cell? (ad.add (i * 3 + 1)) = some (.int .i64 (l.getD i (0, 0, 0)).2.1) ∧ W.cell? (ad.add (i * 3 + 2)) = some (.int .i64 (l.getD i (0, 0, 0)).2.2) := by
  obtain ⟨ad, c, hA, hc, hK, hcell⟩ := ReadsRow.get_ h (0, 0, 0) (i : Int) (by omega) (by omega)
  rw [Int.toNat_natCast] at hK hcell
  obtain rfl := kd46_open hK
  have e : kd46.sz = 3 := rfl
  rw [e] at hcell
  exact ⟨ad, hA, hcell 0 _ rfl, hcell 1 _ rfl, hcell 2 _ rfl⟩
theorem info46 : (Try.prog.info? 46).map (·.size) = some 3 := by kernel_rfl
theorem load46 {ad : Addr} {x y z : Value} (h0 : W.cell? ad = some x) (h1 : W.cell? (ad.add 1) = some y) (h2 : W.cell? (ad.add 2) = some z) : (loadVar 46 ad).run Try.prog W = .ok (.agg #[x, y, z]) W := by
  have hl : (loadCells ad 3).run Try.prog W = .ok #[x, y, z] W :=
    run_loadCells_list (P := Try.prog) W ad [x, y, z] (fun j v hv => by
      match j, hv with
      | 0, hv =>
        obtain rfl : x = v := by simpa using hv
        have e : ad.add 0 = ad := by simp [Addr.add]
        rw [e]; exact h0
      | 1, hv =>
        obtain rfl : y = v := by simpa using hv
        exact h1
      | 2, hv =>
        obtain rfl : z = v := by simpa using hv
        exact h2)
  have hagg : (isAgg 46).run Try.prog W = .ok true W := by
    unfold isAgg
    rw [Sem.run_bind, run_underlying Try.underlying46 W]
    rfl
  have hi := info46
  cases hq : Try.prog.info? 46 with
  | none => simp [hq] at hi
  | some i =>
    have hs : i.size = 3 := by simpa [hq] using hi
    simp [loadVar, Sem.run_bind, hagg, sizeOf, typeInfo, hq, hs, hl]
theorem ld46 {o : Oper} {a : Act} {p : Tmp} {ad : Addr} {x y z : Value} (ho : o.op = .load 46 (.tmp p)) (hp : a.eval (.tmp p) = .pointer (some ad)) (h0 : W.cell? ad = some x) (h1 : W.cell? (ad.add 1) = some y) (h2 : W.cell? (ad.add 2) = some z) : (execOp a.eval o).run Try.prog W = .ok (.value (.agg #[x, y, z])) W := by
  unfold execOp
  simp only [ho, hp, Instr.loadAt, Instr.sureAddr, Sem.run_bind, Sem.run_pure, Result.andThen_ok, load46 h0 h1 h2]
theorem results_42c {fn : Func} {p q u : Tmp} (h : fn.results = #[.tmp q, .cell p 42, .tmp u]) {tmps : Array Value} {cs : Array Value} {x y : Value} (hp : tmps.getD p undef = .pointer (some ⟨g, 0, none⟩)) (hq : tmps.getD q undef = x) (hu : tmps.getD u undef = y) (hs : cs.size = 131) (hg : W.heap[g]? = some (.cells cs 42 (0, 0))) :
    (results fn tmps).run Try.prog W = .ok (.tuple #[x, .agg cs, y]) W := by
  have hl := load42 hs hg
  have hp' : tmps[p]?.getD undef = .pointer (some ⟨g, 0, none⟩) := by simpa using hp
  have hq' : tmps[q]?.getD undef = x := by simpa using hq
  have hu' : tmps[u]?.getD undef = y := by simpa using hu
  simp [results, h, hp', hq', hu', asAddr, hl]
theorem zc42 : Try.zeroCells42 = ([.int .i64 0, .int .i64 0] ++ List.replicate 64 (.bool false) ++ List.replicate 64 (.int .i64 0) ++ [.slice none 0 0] : List Value).toArray := by kernel_rfl
theorem one42 : Try.zeroCells42.all (·.oneCell') = true := by kernel_rfl
def r0 (m : Int) : Rf := ⟨m, 0, List.replicate 64 false, List.replicate 64 0, []⟩
theorem X0_sz (m : Int) : (Try.zeroCells42.setIfInBounds 0 (.int .i64 m)).size = 131 := by rw [Array.size_setIfInBounds]; exact zero42
theorem X0_get (m : Int) (i : Nat) (hi : i ≠ 0) : (Try.zeroCells42.setIfInBounds 0 (.int .i64 m))[i]? = ([.int .i64 0, .int .i64 0] ++ List.replicate 64 (.bool false) ++ List.replicate 64 (.int .i64 0) ++ [.slice none 0 0] : List Value)[i]? := by
  rw [Array.getElem?_setIfInBounds, if_neg (by omega), zc42, List.getElem?_toArray]
theorem gdr {α : Type} (n i : Nat) (a d : α) (h : i < n) : (List.replicate n a).getD i d = a := by
  rw [List.getD_eq_getElem?_getD, List.getElem?_replicate, if_pos h]
  rfl
theorem gdr2 {α : Type} (n i : Nat) (a : α) : (List.replicate n a).getD i a = a := by
  rw [List.getD_eq_getElem?_getD, List.getElem?_replicate]
  split <;> rfl
theorem rv0 (B : Nat) (W : World) (m : Int) : RV B W (Try.zeroCells42.setIfInBounds 0 (.int .i64 m)) (r0 m) := by
  refine ⟨X0_sz m, one_set one42 _ rfl, ?_, ?_, fun i hi => ?_, fun i hi => ?_, ⟨.slice none 0 0, ?_, R_nil _ _ _ _ _⟩, by simp [r0], by simp [r0]⟩
  · rw [Array.getElem?_setIfInBounds, if_pos rfl, if_pos (by rw [zero42]; decide)]
    rfl
  · rw [X0_get m 1 (by decide)]
    rfl
  · rw [X0_get m _ (by omega), List.getElem?_append_left (by simp only [List.length_append, List.length_replicate, List.length_cons, List.length_nil]; omega), List.getElem?_append_left (by simp only [List.length_append, List.length_replicate, List.length_cons, List.length_nil]; omega), List.getElem?_append_right (by simp only [List.length_cons, List.length_nil]; omega)]
    show (List.replicate 64 (Value.bool false))[2 + i - 2]? = _
    rw [show 2 + i - 2 = i by omega, List.getElem?_replicate, if_pos hi]
    exact congrArg (fun b => some (Value.bool b)) (gdr 64 i false false hi).symm
  · rw [X0_get m _ (by omega), List.getElem?_append_left (by simp only [List.length_append, List.length_replicate, List.length_cons, List.length_nil]; omega), List.getElem?_append_right (by simp only [List.length_append, List.length_replicate, List.length_cons, List.length_nil]; omega)]
    show (List.replicate 64 (Value.int .i64 0))[66 + i - (2 + 64)]? = _
    rw [show 66 + i - (2 + 64) = i by omega, List.getElem?_replicate, if_pos hi]
    exact congrArg (fun b => some (Value.int .i64 b)) (gdr 64 i 0 0 hi).symm
  · rw [X0_get m _ (by decide)]
    rfl
theorem sim0 (m : Int) (h1 : 1 ≤ m) (h2 : m ≤ 60) : Sim ⟨[], 0, 0, m⟩ (r0 m) := by
  have hc : rlen (r0 m) = 0 := by simp [rlen, r0, List.countP_replicate]
  refine ⟨rfl, h1, h2, rfl, by rw [hc]; rfl, by simp [r0], by simp [r0], fun j hj => ?_, ?_, fun j hj => absurd hj (by simp), rfl, List.nodup_nil, by rw [hc]; rfl, by simp; omega⟩
  · exact gdr2 64 (j + 1) false
  · exact gdr2 64 0 false
end Go.Proofs.Ytpfikmchimlneaa.Ar
