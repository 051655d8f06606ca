/- tight -/ -- written by wip/myprint.py and wip/pack.py
import Derived.Test.YtnklnjghecmihaaL2x0
namespace Go.Proofs.Ytnklnjghecmihaa.L2
open Go.RowKit Go.Proofs.YtnklnjghecmihaaW aQ dV fP Mine
attribute [local go_sem] iM iO jk jl gW gX iP iQ iK iL dP dR dQ
set_option linter.unusedVariables false
set_option linter.unusedSimpArgs false
theorem ahw {P : Prop} (h : P := by (with_reducible repeat first | exact HB.out | apply mG | apply ni | apply ny) <;> exact HB.out) : P := h
theorem ahx {P : Prop} (h : P := by (with_reducible repeat first | exact HB.out | apply mG | apply ni | apply ny | refine jW ?_ adO.out) <;> exact HB.out) : P := h
theorem Xy {P : Prop} (h : P := by (with_reducible repeat first | apply iR | apply iT | apply iJ); exact Nq.out) : P := h
theorem atu {P : Prop} (h : P := by (with_reducible repeat first | exact HB.out | apply mG | apply ni | apply ny | refine jW ?_ adO.out | refine jW ?_ aiH.out) <;> exact HB.out) : P := h
/-! ### catchmentref12_Ahead: function 30 -/
def fU.f (aI : Int) (aN : Int) (aW : ByteArray) (bF : ByteArray) (bP : ByteArray) (bT : Int) (bf : Int) (aZ : Int) (jS : ByteArray) (kQ : ByteArray) (kR : ByteArray) (kS : Int) : Option (Bool) := if aN < aZ then (some true) else (if aN = aZ then (some (Op.bytesLess aW.toList jS.toList)) else (some false))
set_option maxHeartbeats 8000000 in
set_option maxRecDepth 100000 in
theorem fU.calls (aI : Int) (aN : Int) (aW : ByteArray) (bF : ByteArray) (bP : ByteArray) (bT : Int) (bf : Int) (aZ : Int) (jS : ByteArray) (kQ : ByteArray) (kR : ByteArray) (kS : Int) (r : Bool) (w : World) (h : fU.f aI aN aW bF bP bT bf aZ jS kQ kR kS = some r) :
  Calls Try.prog 30 #[.agg #[.int .u8 aI, .int .i64 aN, .string aW, .string bF, .string bP, .int .u64 bT], .agg #[.int .u8 bf, .int .i64 aZ, .string jS, .string kQ, .string kR, .int .u64 kS]] w fun e w' => e = .returned (.bool r) ∧ Below w.heap.size w w' := by
 (have vU := Try.underlying46); (have HB := ah.mk (Below.refl w.heap.size w)); (have H : (if aN < aZ then (some true) else (if aN = aZ then (some (Op.bytesLess aW.toList jS.toList)) else (some false))) = some r := h); (clear h); (by_cases c3 : aN < aZ)
 ·rw [if_pos c3] at H
  (have zn : decide (aN < aZ) = true := decide_eq_true c3); (clear c3); (obtain rfl := Option.some.inj H); (go_enter Try.func30, Try.ntmps30)
  go_wp2_with (first | ((with_reducible refine bM (N := 2) rfl ?_); refine bU ?hg (N := 2) ?hd (cs := #[.int .u8 aI, .int .i64 aN, .string aW, .string bF, .string bP, .int .u64 bT]) (t := 46) ?hr ?_; (case hd => rfl); (case hg => rfl); (case hr => first | (go_simp; done) | (go_simp; rfl)); intro aqx hg w4 hbox hb; have Nq := ah.mk (hbox); have aap := ah.mk (hs_ hg (ahw)); replace HB := ah.mk (ak (ahw) hb); have adO := aap; clear hb hbox hg) | ((with_reducible refine bM (N := 3) rfl ?_); refine bU ?hg (N := 3) ?hd (cs := #[.int .u8 bf, .int .i64 aZ, .string jS, .string kQ, .string kR, .int .u64 kS]) (t := 46) ?hr ?_; (case hd => rfl); (case hg => rfl); (case hr => first | (go_simp; done) | (go_simp; rfl)); intro aqy hg w5 hbox hb; have aaq := ah.mk (hbox); have aar := ah.mk (hs_ hg (ahx)); replace HB := ah.mk (ak (ahx) hb); have aiH := aar; have ED := ah.mk (pq hg (Xy)); have EF := ah.mk (pz hg (Xy)); replace Nq := ah.mk (aA (Xy) hb); clear hb hbox hg; have aOX := ED.out; have aOY := EF.out; obtain ⟨TF, TG, TI, TJ, TK, TL, TM, TN, TP, TQ, TR, TS⟩ := iy Nq; obtain ⟨Ed, Ee, Ik, Il, Io, Ip, Ef, Eh, Iq, Ir, Iu, Iw⟩ := iy aaq))
  (go_ret); (exact ⟨by first | rfl | (simp [*, bg, bn] <;> rfl), atu⟩)
 ·rw [if_neg c3] at H
  (have zn : decide (aN < aZ) = false := decide_eq_false c3); (clear c3); (by_cases c9 : aN = aZ)
  ·rw [if_pos c9] at H
   (have Iy : (aN == aZ) = true := beq_iff_eq.mpr c9); (have amf : (aN != aZ) = false := bne_eq_false_iff_eq.mpr c9); (clear c9); (obtain rfl := Option.some.inj H); (go_enter Try.func30, Try.ntmps30)
   go_wp2_with (first | ((with_reducible refine bM (N := 2) rfl ?_); refine bU ?hg (N := 2) ?hd (cs := #[.int .u8 aI, .int .i64 aN, .string aW, .string bF, .string bP, .int .u64 bT]) (t := 46) ?hr ?_; (case hd => rfl); (case hg => rfl); (case hr => first | (go_simp; done) | (go_simp; rfl)); intro aqx hg w10 hbox hb; have Nq := ah.mk (hbox); have aap := ah.mk (hs_ hg (ahw)); replace HB := ah.mk (ak (ahw) hb); have adO := aap; clear hb hbox hg) | ((with_reducible refine bM (N := 3) rfl ?_); refine bU ?hg (N := 3) ?hd (cs := #[.int .u8 bf, .int .i64 aZ, .string jS, .string kQ, .string kR, .int .u64 kS]) (t := 46) ?hr ?_; (case hd => rfl); (case hg => rfl); (case hr => first | (go_simp; done) | (go_simp; rfl)); intro aqy hg w11 hbox hb; have aaq := ah.mk (hbox); have aar := ah.mk (hs_ hg (ahx)); replace HB := ah.mk (ak (ahx) hb); have aiH := aar; have ED := ah.mk (pq hg (Xy)); have EF := ah.mk (pz hg (Xy)); replace Nq := ah.mk (aA (Xy) hb); clear hb hbox hg; have aiI := ED.out; have aiJ := EF.out; obtain ⟨adP, adQ, amg, amh, ami, amj, adR, adS, amk, aml, amm, amn⟩ := iy Nq; obtain ⟨Jm, Jo, Jp, Jq, Jr, Js, Jt, Ju, Jv, Jw, Jy, Jz⟩ := iy aaq))
   (go_ret); (exact ⟨by first | rfl | (simp [*, bg, bn] <;> rfl), atu⟩)
  ·rw [if_neg c9] at H
   (have Iy : (aN == aZ) = false := beq_eq_false_iff_ne.mpr c9); (have amf : (aN != aZ) = true := bne_iff_ne.mpr c9); (obtain rfl := Option.some.inj H); (go_enter Try.func30, Try.ntmps30)
   go_wp2_with (first | ((with_reducible refine bM (N := 2) rfl ?_); refine bU ?hg (N := 2) ?hd (cs := #[.int .u8 aI, .int .i64 aN, .string aW, .string bF, .string bP, .int .u64 bT]) (t := 46) ?hr ?_; (case hd => rfl); (case hg => rfl); (case hr => first | (go_simp; done) | (go_simp; rfl)); intro aqx hg w15 hbox hb; have Nq := ah.mk (hbox); have aap := ah.mk (hs_ hg (ahw)); replace HB := ah.mk (ak (ahw) hb); have adO := aap; clear hb hbox hg) | ((with_reducible refine bM (N := 3) rfl ?_); refine bU ?hg (N := 3) ?hd (cs := #[.int .u8 bf, .int .i64 aZ, .string jS, .string kQ, .string kR, .int .u64 kS]) (t := 46) ?hr ?_; (case hd => rfl); (case hg => rfl); (case hr => first | (go_simp; done) | (go_simp; rfl)); intro aqy hg w16 hbox hb; have aaq := ah.mk (hbox); have aar := ah.mk (hs_ hg (ahx)); replace HB := ah.mk (ak (ahx) hb); have aiH := aar; have ED := ah.mk (pq hg (Xy)); have EF := ah.mk (pz hg (Xy)); replace Nq := ah.mk (aA (Xy) hb); clear hb hbox hg; have aw0 := ED.out; have aw1 := EF.out; obtain ⟨Xz, XA, adT, adU, adV, adW, XB, XC, adX, adY, adZ, ad1⟩ := iy Nq; obtain ⟨zO, zQ, ad2, ad3, ad4, ad5, zS, zT, ad6, ad7, ad8, ad9⟩ := iy aaq))
   (go_ret); (exact ⟨by first | rfl | (simp [*, bg, bn] <;> rfl), atu⟩)
theorem amo {P : Prop} (h : P := by (with_reducible repeat first | exact HB.out | apply mG | apply ni | apply ny) <;> exact HB.out) : P := h
theorem aw2 {P : Prop} (h : P := by (with_reducible repeat first | exact HB.out | apply mG | apply ni | apply ny | refine jW ?_ aqz.out) <;> exact HB.out) : P := h
/-! ### catchmentref02_Right: function 52 -/
def gK.f (aI : ByteArray) (aN : ByteArray) : Option (Bool) := if aN.toList = ([] : List UInt8) then (some true) else (some (Op.bytesLess aI.toList aN.toList))
set_option maxHeartbeats 8000000 in
set_option maxRecDepth 100000 in
theorem gK.calls (aI : ByteArray) (aN : ByteArray) (r : Bool) (w : World) (h : gK.f aI aN = some r) :
  Calls Try.prog 52 #[.agg #[.string aI, .string aN]] w fun e w' => e = .returned (.bool r) ∧ Below w.heap.size w w' := by
 (have H_ := Try.underlying48); (have HB := ah.mk (Below.refl w.heap.size w)); (have H : (if aN.toList = ([] : List UInt8) then (some true) else (some (Op.bytesLess aI.toList aN.toList))) = some r := h); (clear h); (by_cases c2 : aN.toList = ([] : List UInt8))
 ·rw [if_pos c2] at H
  (have zo : (aN.toList == ([] : List UInt8)) = true := beq_iff_eq.mpr c2); (have XD : (aN.toList != ([] : List UInt8)) = false := bne_eq_false_iff_eq.mpr c2); (clear c2); (obtain rfl := Option.some.inj H); (go_enter Try.func52, Try.ntmps52)
  go_wp2_with (first | ((with_reducible refine bM (N := 1) rfl ?_); refine bU ?hg (N := 1) ?hd (cs := #[.string aI, .string aN]) (t := 48) ?hr ?_; (case hd => rfl); (case hg => rfl); (case hr => first | (go_simp; done) | (go_simp; rfl)); intro aw3 hg w3 hbox hb; have aiK := ah.mk (hbox); have aiL := ah.mk (hs_ hg (amo)); replace HB := ah.mk (ak (amo) hb); have aqz := aiL; clear hb hbox hg; obtain ⟨XE, XF, XG, XH⟩ := oQ aiK))
  (go_ret); (exact ⟨by first | rfl | (simp [*, bg, bn] <;> rfl), aw2⟩)
 ·rw [if_neg c2] at H
  (have zo : (aN.toList == ([] : List UInt8)) = false := beq_eq_false_iff_ne.mpr c2); (have XD : (aN.toList != ([] : List UInt8)) = true := bne_iff_ne.mpr c2); (obtain rfl := Option.some.inj H); (go_enter Try.func52, Try.ntmps52)
  go_wp2_with (first | ((with_reducible refine bM (N := 1) rfl ?_); refine bU ?hg (N := 1) ?hd (cs := #[.string aI, .string aN]) (t := 48) ?hr ?_; (case hd => rfl); (case hg => rfl); (case hr => first | (go_simp; done) | (go_simp; rfl)); intro aw3 hg w5 hbox hb; have aiK := ah.mk (hbox); have aiL := ah.mk (hs_ hg (amo)); replace HB := ah.mk (ak (amo) hb); have aqz := aiL; clear hb hbox hg; obtain ⟨aiM, aiN, aiO, aiP⟩ := oQ aiK))
  (go_ret); (exact ⟨by first | rfl | (simp [*, bg, bn] <;> rfl), aw2⟩)
theorem amq {P : Prop} (h : P := by (with_reducible repeat first | exact HB.out | apply mG | apply ni | apply ny) <;> exact HB.out) : P := h
theorem aw4 {P : Prop} (h : P := by (with_reducible repeat first | exact HB.out | apply mG | apply ni | apply ny | refine jW ?_ aqA.out) <;> exact HB.out) : P := h
/-! ### catchmentref04_Point: function 116 -/
def dX.f (aI : Int) (aN : Int) (aW : ByteArray) (bF : ByteArray) (bP : ByteArray) (bT : Int) : Option (Bool) := if aI ≥ 1 then (some (decide (aI ≤ 3))) else (some false)
set_option maxHeartbeats 8000000 in
set_option maxRecDepth 100000 in
theorem dX.calls (aI : Int) (aN : Int) (aW : ByteArray) (bF : ByteArray) (bP : ByteArray) (bT : Int) (r : Bool) (w : World) (h : dX.f aI aN aW bF bP bT = some r) :
  Calls Try.prog 116 #[.agg #[.int .u8 aI, .int .i64 aN, .string aW, .string bF, .string bP, .int .u64 bT]] w fun e w' => e = .returned (.bool r) ∧ Below w.heap.size w w' := by
 (have vU := Try.underlying46); (have HB := ah.mk (Below.refl w.heap.size w)); (have H : (if aI ≥ 1 then (some (decide (aI ≤ 3))) else (some false)) = some r := h); (clear h); (by_cases c2 : aI ≥ 1)
 ·rw [if_pos c2] at H
  (have zo : decide (1 ≤ aI) = true := decide_eq_true c2); (clear c2); (obtain rfl := Option.some.inj H); (go_enter Try.func116, Try.ntmps116)
  go_wp2_with (first | ((with_reducible refine bM (N := 1) rfl ?_); refine bU ?hg (N := 1) ?hd (cs := #[.int .u8 aI, .int .i64 aN, .string aW, .string bF, .string bP, .int .u64 bT]) (t := 46) ?hr ?_; (case hd => rfl); (case hg => rfl); (case hr => first | (go_simp; done) | (go_simp; rfl)); intro aw5 hg w3 hbox hb; have aiQ := ah.mk (hbox); have aiR := ah.mk (hs_ hg (amq)); replace HB := ah.mk (ak (amq) hb); have aqA := aiR; clear hb hbox hg; obtain ⟨XE, XF, atv, atw, atx, aty, XG, XH, atz, atA, atB, atC⟩ := iy aiQ))
  (go_ret); (exact ⟨by first | rfl | (simp [*, bg, bn] <;> rfl), aw4⟩)
 ·rw [if_neg c2] at H
  (have zo : decide (1 ≤ aI) = false := decide_eq_false c2); (clear c2); (obtain rfl := Option.some.inj H); (go_enter Try.func116, Try.ntmps116)
  go_wp2_with (first | ((with_reducible refine bM (N := 1) rfl ?_); refine bU ?hg (N := 1) ?hd (cs := #[.int .u8 aI, .int .i64 aN, .string aW, .string bF, .string bP, .int .u64 bT]) (t := 46) ?hr ?_; (case hd => rfl); (case hg => rfl); (case hr => first | (go_simp; done) | (go_simp; rfl)); intro aw5 hg w5 hbox hb; have aiQ := ah.mk (hbox); have aiR := ah.mk (hs_ hg (amq)); replace HB := ah.mk (ak (amq) hb); have aqA := aiR; clear hb hbox hg; obtain ⟨aiM, aiN, atD, atE, atF, atG, aiO, aiP, atH, atI, atJ, atK⟩ := iy aiQ))
  (go_ret); (exact ⟨by first | rfl | (simp [*, bg, bn] <;> rfl), aw4⟩)
/-! ### catchmentref02_Meet: function 88 -/
def bW.vw (a e : List UInt8) : Bool := e.isEmpty || Op.bytesLess a e
def bW.Fz (a b : List UInt8) : Bool := !a.isEmpty && (b.isEmpty || Op.bytesLess a b)
def bW.f (aI : ByteArray) (aN : ByteArray) (bf : ByteArray) (aZ : ByteArray) : Option (ByteArray × ByteArray × Bool) :=
 if bW.vw aI.toList aN.toList = true ∧ bW.vw bf.toList aZ.toList = true ∧ bW.vw (Ey aI bf).toList (if bW.Fz aZ.toList aN.toList = true then aZ else aN).toList = true then
  some (Ey aI bf, (if bW.Fz aZ.toList aN.toList = true then aZ else aN), true) else some (⟨#[]⟩, ⟨#[]⟩, false)
set_option maxHeartbeats 8000000 in
set_option maxRecDepth 100000 in
theorem bW.calls (aI : ByteArray) (aN : ByteArray) (bf : ByteArray) (aZ : ByteArray) (r1 : ByteArray) (r2 : ByteArray) (r3 : Bool) (w : World) (h : bW.f aI aN bf aZ = some (r1, r2, r3)) :
  Calls Try.prog 88 #[.agg #[.string aI, .string aN], .agg #[.string bf, .string aZ]] w fun e w' => e = .returned (.tuple #[.agg #[.string r1, .string r2], .bool r3]) ∧ Below w.heap.size w w' := by
 have H := ah.mk h
 clear h
 go_enter Try.func88, Try.ntmps88
 go_wp2
 all_goals
  have h := H.out
  clear H
  refine bodyPost_ret (v := .tuple #[.agg #[.string r1, .string r2], .bool r3]) ?_ rfl ⟨rfl, by repeat (first | exact Below.refl _ _ | apply nH | refine ahl ?_ (by simp))⟩
  first | (simp_all [results, Try.results88, go_sem, bW.f, bW.vw, bW.Fz, Ey]; done) | (simp_all [results, Try.results88, go_sem, bW.f, bW.vw, bW.Fz, Ey]; exact h.1.symm.trans h.2.1)
/-! ### api_Msg_89: function 89 -/
open Go.Proofs.YtnklnjghecmihaaW.Sl
theorem eG.info : (Try.prog.info? 46).map (fun i => (i.zero, i.size, i.bytes)) = some (some (.agg #[(.int .u8 0), (.int .i64 0), (.string ⟨#[]⟩), (.string ⟨#[]⟩), (.string ⟨#[]⟩), (.int .u64 0)]), 6, 72) := by kernel_rfl
def eG.total (ls : List (List bC)) : Nat := (ls.map List.length).sum
def eG.f (ls : List (List bC)) : Option (List bC) := if eG.total ls < 1000000 then some ls.flatten else none
set_option maxHeartbeats 4000000 in
set_option maxRecDepth 100000 in
theorem eG.grow (n : Nat) (hn : n < 1000000) (w : World) :
  Calls Try.prog 129 #[.slice none 0 0, .int .i64 (n : Int)] w fun e w' => ∃ v : Value, e = .returned v ∧ Kd.R k46 46 w' w.heap.size (fun _ => True) v [] ∧ Below w.heap.size w w' := by
 by_cases h0 : n = 0
 ·subst h0
  go_enter Try.func129, Try.ntmps129
  go_wp2
  go_ret
  exact ⟨_, rfl, Kd.Ig _ _ _ _ _, Below.refl _ _⟩
 ·obtain ⟨i0, hi, hz0, hz1, hz2⟩ := info_parts eG.info
  have hrun := Lib.run_append_nil_zeros (P := Try.prog) w 36 3 36 46 i0 _ .i64 .i64 Try.underlying36 Try.underlying3 hi hz0 n (by omega) (by omega) (by omega) (by rw [hz2]; omega)
  have hcap := grownCap_ge w n 0 46
  have hcm := grownCap_le_maxLen w n 0 46 (by unfold maxLen; omega)
  have hsz : (Builtin.zeroCells ((.agg #[(.int .u8 0), (.int .i64 0), (.string ⟨#[]⟩), (.string ⟨#[]⟩), (.string ⟨#[]⟩), (.int .u64 0)]) : Value).cells n ++ Builtin.zeroCells ((.agg #[(.int .u8 0), (.int .i64 0), (.string ⟨#[]⟩), (.string ⟨#[]⟩), (.string ⟨#[]⟩), (.int .u64 0)]) : Value).cells (grownCap w n 0 46 - n)).size = grownCap w n 0 46 * 6 := by
   simp only [Array.size_append, size_zeroCells]
   simp [Value.cells]
   omega
  have aJL := ah.mk hrun
  have HSZ := ah.mk hsz
  have HCM := ah.mk hcm
  generalize grownCap w n 0 46 = cap at *
  have hpos : (0 : Int) < (n : Int) := by omega
  have hpos' : decide ((0 : Int) < (n : Int)) = true := decide_eq_true hpos
  clear hrun hsz hcm hi hz0 hz1 hz2 h0
  go_enter Try.func129, Try.ntmps129
  go_wp2_with (at_builtin; refine Lib.wpList_append_run _ rfl _ _ _ _ rfl _ _ rfl rfl _ _ aJL.out ?_)
  go_ret
  exact ⟨_, rfl, VR k46 46 _ cap HCM.out HSZ.out, ((Below.refl _ w).drew).alloc (Nat.le_refl _) _⟩
theorem eG.acu (ls : List (List bC)) (k : Nat) (hk : k < ls.length) : eG.total (ls.take (k + 1)) = eG.total (ls.take k) + (ls.getD k []).length := by
 unfold eG.total
 rw [List.take_add_one, List.getElem?_eq_getElem hk, List.map_append, List.sum_append, List.getD_eq_getElem?_getD, List.getElem?_eq_getElem hk]
 simp
theorem eG.TT (ls : List (List bC)) (k : Nat) : eG.total (ls.take k) ≤ eG.total ls := by
 have h := List.take_append_drop k ls
 have : eG.total ls = eG.total (ls.take k) + eG.total (ls.drop k) := by
  unfold eG.total
  rw [← List.sum_append, ← List.map_append, h]
 omega
theorem eG.aiS (ls : List (List bC)) : ls.flatten.length = eG.total ls := by simp [eG.total, List.length_flatten]
theorem eG.ahy (ls : List (List bC)) (k : Nat) (hk : k < ls.length) : (ls.take (k + 1)).flatten = (ls.take k).flatten ++ ls.getD k [] := by
 rw [List.take_add_one, List.getElem?_eq_getElem hk, List.flatten_append, List.getD_eq_getElem?_getD, List.getElem?_eq_getElem hk]
 simp
set_option maxHeartbeats 8000000 in
set_option maxRecDepth 100000 in
theorem eG.calls (A0 : Option Addr) (c0 : Nat) (l0 : List (List bC)) (r : List bC) (w : World) (hr0 : Kd.C (Kd.slice 46 k46) w A0 l0.length l0) (hc0 : l0.length ≤ c0) (h : eG.f l0 = some r) :
  Calls Try.prog 89 #[.slice A0 l0.length c0] w fun e w' => ∃ zq : Value, e = .returned (zq) ∧ Kd.R k46 46 w' w.heap.size (fun _ => True) zq r ∧ Below w.heap.size w w' := by
 have hT : eG.total l0 < 1000000 := by
  unfold eG.f at h
  split at h
  ·assumption
  ·exact absurd h (by simp)
 unfold eG.f at h
 rw [if_pos hT] at h
 obtain rfl := Option.some.inj h
 have hn0 : l0.length ≤ 9223372036854775807 := hr0.2.1
 have HT := ah.mk hT
 have HR0 := ah.mk hr0
 clear h hT hr0
 go_enter Try.func89, Try.ntmps89
 go_wp2
 go_loop [3, 11] (fun s i => ∃ k : Nat, k ≤ l0.length ∧ i = .int .i64 (k : Int) ∧ s = .int .i64 (eG.total (l0.take k) : Int)) (fun _ i => l0.length - (intOf i).toNat)
 case atStart => exact ⟨0, Nat.zero_le _, rfl, rfl⟩
 case round =>
  obtain ⟨k, hk, rfl, rfl⟩ := hrel
  have hle := eG.TT l0 k
  have hle1 := eG.TT l0 (k + 1)
  have hT := HT.out
  by_cases hlt : k < l0.length
  ·obtain ⟨ad, A', c', rfl, hcell, hlc, _⟩ := aqw HR0.out k hlt
   have hs := eG.acu l0 k hlt
   have HS := ah.mk hs
   have b1 : 0 ≤ (eG.total (l0.take k) : Int) := by omega
   have b2 : (eG.total (l0.take k) : Int) ≤ 1000000 := by omega
   have b3 : ((l0.getD k []).length : Int) ≤ 1000000 := by omega
   have b4 : ¬ ((eG.total (l0.take k) : Int) + ((l0.getD k []).length : Int) < 0) := by omega
   generalize eG.total (l0.take k) = u at *
   generalize (l0.getD k []).length = v at *
   clear hs hle hle1 hT
   go_wp2
   go_round
   case rel => exact ⟨k + 1, by omega, by go_num, by rw [HS.out]; go_num⟩
   case measure => simp [intOf]; omega
  ·obtain rfl : k = l0.length := by omega
   rw [List.take_length] at *
   have b1 : 0 ≤ (eG.total l0 : Int) := by omega
   clear hle hle1 hT
   go_wp2_with (go_at_call 129; refine (eG.grow (eG.total l0) HT.out _).mono ?_; rintro e w1 ⟨v, rfl, hR, hB⟩)
   have HB := ah.mk hB
   have HR := ah.mk hR
   clear hB hR
   go_loopw [6, 27] (fun s i wr => ∃ k : Nat, k ≤ l0.length ∧ i = .int .i64 (k : Int) ∧ ah (Kd.R k46 46 wr w.heap.size (fun _ => True) s (l0.take k).flatten) ∧ ah (Below w.heap.size w wr)) (fun _ i _ => l0.length - (intOf i).toNat)
   case atStart => exact ⟨0, Nat.zero_le _, rfl, HR, HB⟩
   case round =>
    obtain ⟨k, hk, rfl, HR, HB⟩ := hrel
    by_cases hlt : k < l0.length
    ·obtain ⟨ad, A', c', hA, hcell, hlc, hC⟩ := aqw (Kd.uN HR0.out HB.out) k hlt
     subst hA
     have hf := eG.ahy l0 k hlt
     have e := eG.aiS (l0.take (k + 1))
     have h1 := eG.TT l0 (k + 1)
     have hR6 := HR.out
     clear HR
     generalize l0.getD k [] = row at *
     generalize (l0.take k).flatten = acc at *
     rw [hf, List.length_append] at e
     have hlen : (acc.length + row.length) * 72 ≤ 140737488355328 := by
      have := HT.out
      omega
     have HC := ah.mk hC
     have HF := ah.mk hf
     have HL := ah.mk hlen
     obtain ⟨A6, c6, rfl⟩ := Kd.fJ hR6
     have HR := ah.mk hR6
     clear hf hlen hC e h1 hR6
     go_wp2_with (at_builtin; refine Kd.rD k46 (Rr := k46.K wr) w.heap.size rfl _ _ 36 46 _ 72 rfl Try.underlying36 eG.info rfl (by decide) (by decide) _ acc row _ _ _ (fun _ => True) (fun _ => False) rfl rfl HR.out HC.out (fun _ _ h => h) (fun _ h => h.elim) (fun _ _ => trivial) HB.out HB.out.size HL.out ?_; intro v1 w1 hR1 hB1 _ _; have HR1 := ah.mk hR1; have HB1 := ah.mk hB1; clear hR1 hB1)
     go_roundw
     case rel => exact ⟨k + 1, by omega, by go_num, by rw [HF.out]; exact HR1, HB1⟩
     case measure => simp [intOf]; omega
    ·obtain rfl : k = l0.length := by omega
     rw [List.take_length] at HR
     go_wp2
     go_ret
     exact ⟨_, rfl, HR.out, HB.out⟩
theorem ad_ {P : Prop} (h : P := by repeat (first | exact jg.refl _ | apply jg.step)) : P := h
/-! ### cmp_Or_int: function 131 -/
def fV.l0 : Nat → Int → List Int → Int → Int → Option (Int)
 | 0, _, _, _, _ => none
 | k + 1, x3, x6, x7, x8 => if x8 < x7 then (if 0 ≤ x8 then (if x8 < (x6.length : Int) then (if (rd x6 x8) = x3 then (fV.l0 k x3 x6 x7 (wrap64 (x8 + 1))) else (some (rd x6 x8))) else (none)) else (none)) else (some x3)
def fV.f (k : Nat) (l0 : List Int) : Option (Int) := fV.l0 k 0 l0 (l0.length : Int) 0
theorem fV.gB : ∀ k, (∀ y0 y1 y2 y3, dO (fV.l0 k y0 y1 y2 y3) (fV.l0 (k + 1) y0 y1 y2 y3))
 | 0 => fun _ _ _ _ r h => by simp [fV.l0] at h
 | k + 1 => by
  have lS := fV.gB k
  ·intro y0 y1 y2 y3
   unfold fV.l0
   repeat' (with_reducible first | exact lS _ _ _ _ | exact dO.refl _ | exact dO.none _ | refine dO.ite ?_ ?_ | refine dO.bind ?_ (fun _ => ?_))
theorem fV.mono : ∀ a0 k, dO (fV.f k a0) (fV.f (k + 1) a0) := by
 (intro a0 k); (have lS := fV.gB k); (unfold fV.f)
 repeat' (with_reducible first | exact lS _ _ _ _ | exact dO.refl _ | exact dO.none _ | refine dO.ite ?_ ?_ | refine dO.bind ?_ (fun _ => ?_))
set_option maxHeartbeats 8000000 in
set_option maxRecDepth 100000 in
theorem fV.calls (k : Nat) (A0 : Option Addr) (c0 : Nat) (l0 : List Int) (r : Int) (w : World) (hr0 : Kd.C (Kd.int .i64) w A0 l0.length l0) (hc0 : l0.length ≤ c0) (h : fV.f k l0 = some r) :
  Calls Try.prog 131 #[.slice A0 l0.length c0] w fun e w' => e = .returned (.int .i64 r) ∧ jg w w' := by
 (have HR0 := ah.mk hr0); (have QK := ah.mk hc0); (clear hr0 hc0); (have H : (fV.l0 k 0 l0 (l0.length : Int) 0) = some r := h); (clear h); (have H' := ah.mk H); (clear H); (go_enter Try.func131, Try.ntmps131); (go_wp2); (go_loopg [8] k (fun kq v8 w' => ∃ (jd : Int), v8 = .int .i64 jd ∧ ah (fV.l0 kq 0 l0 (l0.length : Int) jd = some r) ∧ ah (kq ≤ k) ∧ jg w w'))
 case atStart => exact ⟨(0), (by first | rfl | (simp; done) | (simp [*]; done)), H', ⟨Nat.le_refl _⟩, ad_⟩
 case round =>
  (clear H'); (try clear c1); (obtain ⟨jd, rfl, HA, oh, ⟨m1, rfl⟩⟩ := hrel)
  cases gk with
  | zero => exact absurd HA.out (by simp [fV.l0])
  | succ k1 =>
   (have H := HA.out); (clear HA); (simp only [fV.l0] at H); (by_cases c2 : jd < (l0.length : Int))
   ·rw [if_pos c2] at H
    (have zo : decide (jd < (l0.length : Int)) = true := decide_eq_true c2); (clear c2); (by_cases c3 : 0 ≤ jd)
    ·rw [if_pos c3] at H
     (have zn : decide (0 ≤ jd) = true := decide_eq_true c3); (clear c3); (by_cases c4 : jd < (l0.length : Int))
     ·rw [if_pos c4] at H
      (have uG : decide (jd < (l0.length : Int)) = true := decide_eq_true c4); (clear c4); (by_cases c5 : (rd l0 jd) = 0)
      ·rw [if_pos c5] at H
       (have zU : ((rd l0 jd) == 0) = true := beq_iff_eq.mpr c5); (have aas : ((rd l0 jd) != 0) = false := bne_eq_false_iff_eq.mpr c5); (clear c5); (have H' := ah.mk H); (clear H); (have acv : 0 ≤ (jd : Int) := of_decide_eq_true (by first | (with_reducible assumption) | assumption)); (have acw : jd < (l0.length : Int) := of_decide_eq_true (by first | (with_reducible assumption) | assumption)); (obtain ⟨aw6, atL, amr⟩ := Kd.ais HR0.out jd acv acw); (cases atL); (replace acv := eq_true acv); (replace acw := eq_true acw); (go_wp2); (go_roundg k1)
       case measure => have := oh.out; omega
       case rel => exact ⟨(wrap64 (jd + 1)), (by first | rfl | (simp; done) | (simp [*]; done)), H', ⟨by have := oh.out; omega⟩, ad_⟩
      ·rw [if_neg c5] at H
       (have zU : ((rd l0 jd) == 0) = false := beq_eq_false_iff_ne.mpr c5); (have aas : ((rd l0 jd) != 0) = true := bne_iff_ne.mpr c5); (obtain rfl := Option.some.inj H); (have acv : 0 ≤ (jd : Int) := of_decide_eq_true (by first | (with_reducible assumption) | assumption)); (have acw : jd < (l0.length : Int) := of_decide_eq_true (by first | (with_reducible assumption) | assumption)); (obtain ⟨aw6, atL, amr⟩ := Kd.ais HR0.out jd acv acw); (cases atL); (replace acv := eq_true acv); (replace acw := eq_true acw); (go_wp2); (go_ret); (exact ⟨by first | rfl | (simp; done) | (simp [*]; done), ad_⟩)
     ·rw [if_neg c4] at H
      exact absurd H (by simp)
    ·rw [if_neg c3] at H
     exact absurd H (by simp)
   ·rw [if_neg c2] at H
    (have zo : decide (jd < (l0.length : Int)) = false := decide_eq_false c2); (clear c2); (obtain rfl := Option.some.inj H); (go_wp2); (go_ret); (exact ⟨by first | rfl | (simp; done) | (simp [*]; done), ad_⟩)
/-! ### cmp_isNaN_int: function 157 -/
def cmp_isNaN_int.f (a0 : Int) : Option (Bool) := some (a0 != a0)
set_option maxHeartbeats 8000000 in
set_option maxRecDepth 100000 in
theorem cmp_isNaN_int.calls (a0 : Int) (r : Bool) (w : World) (h : cmp_isNaN_int.f a0 = some r) :
  Calls Try.prog 157 #[.int .i64 a0] w fun e w' => e = .returned (.bool r) ∧ jg w w' := by
 have H : (some (a0 != a0)) = some r := h
 clear h
 obtain rfl := Option.some.inj H
 go_enter Try.func157, Try.ntmps157
 go_wp2
 go_ret
 exact ⟨by first | rfl | (simp; done) | (simp [*]; done), by repeat (first | exact jg.refl _ | apply jg.step)⟩
/-! ### cmp_isNaN_string: function 158 -/
def cmp_isNaN_string.f (a0 : ByteArray) : Option (Bool) := some (a0.toList != a0.toList)
set_option maxHeartbeats 8000000 in
set_option maxRecDepth 100000 in
theorem cmp_isNaN_string.calls (a0 : ByteArray) (r : Bool) (w : World) (h : cmp_isNaN_string.f a0 = some r) :
  Calls Try.prog 158 #[.string a0] w fun e w' => e = .returned (.bool r) ∧ jg w w' := by
 have H : (some (a0.toList != a0.toList)) = some r := h
 clear h
 obtain rfl := Option.some.inj H
 go_enter Try.func158, Try.ntmps158
 go_wp2
 go_ret
 exact ⟨by first | rfl | (simp; done) | (simp [*]; done), by repeat (first | exact jg.refl _ | apply jg.step)⟩
theorem VU {P : Prop} (h : P := by (with_reducible repeat first | exact HB.out | apply mG | apply ni | apply ny) <;> exact HB.out) : P := h
theorem aiT {P : Prop} (h : P := by (with_reducible repeat first | exact HB.out | apply mG | apply ni | apply ny | refine jW ?_ aiU.out) <;> exact HB.out) : P := h
/-! ### msg_IsPoint: function 97 -/
def iH.f (aI : Int) (aN : Int) (aW : ByteArray) (bF : ByteArray) (bP : ByteArray) (bT : Int) : Option (Bool) := if aI = 1 then (some true) else (if aI = 2 then (some true) else (some (aI == 3)))
set_option maxHeartbeats 8000000 in
set_option maxRecDepth 100000 in
theorem iH.calls (aI : Int) (aN : Int) (aW : ByteArray) (bF : ByteArray) (bP : ByteArray) (bT : Int) (r : Bool) (w : World) (h : iH.f aI aN aW bF bP bT = some r) :
  Calls Try.prog 97 #[.agg #[.int .u8 aI, .int .i64 aN, .string aW, .string bF, .string bP, .int .u64 bT]] w fun e w' => e = .returned (.bool r) ∧ Below w.heap.size w w' := by
 (have vU := Try.underlying46); (have HB := ah.mk (Below.refl w.heap.size w)); (have H : (if aI = 1 then (some true) else (if aI = 2 then (some true) else (some (aI == 3)))) = some r := h); (clear h); (by_cases c2 : aI = 1)
 ·rw [if_pos c2] at H
  (have zo : (aI == 1) = true := beq_iff_eq.mpr c2); (have XD : (aI != 1) = false := bne_eq_false_iff_eq.mpr c2); (clear c2); (obtain rfl := Option.some.inj H); (go_enter Try.func97, Try.ntmps97)
  go_wp2_with (first | ((with_reducible refine bM (N := 1) rfl ?_); refine bU ?hg (N := 1) ?hd (cs := #[.int .u8 aI, .int .i64 aN, .string aW, .string bF, .string bP, .int .u64 bT]) (t := 46) ?hr ?_; (case hd => rfl); (case hg => rfl); (case hr => first | (go_simp; done) | (go_simp; rfl)); intro aqB hg w3 hbox hb; have aat := ah.mk (hbox); have aau := ah.mk (hs_ hg (VU)); replace HB := ah.mk (ak (VU) hb); have aiU := aau; clear hb hbox hg; obtain ⟨XE, XF, atv, atw, atx, aty, XG, XH, atz, atA, atB, atC⟩ := iy aat))
  (go_ret); (exact ⟨by first | rfl | (simp [*, bg, bn] <;> rfl), aiT⟩)
 ·rw [if_neg c2] at H
  (have zo : (aI == 1) = false := beq_eq_false_iff_ne.mpr c2); (have XD : (aI != 1) = true := bne_iff_ne.mpr c2); (by_cases c5 : aI = 2)
  ·rw [if_pos c5] at H
   (have zU : (aI == 2) = true := beq_iff_eq.mpr c5); (have aas : (aI != 2) = false := bne_eq_false_iff_eq.mpr c5); (clear c5); (obtain rfl := Option.some.inj H); (go_enter Try.func97, Try.ntmps97)
   go_wp2_with (first | ((with_reducible refine bM (N := 1) rfl ?_); refine bU ?hg (N := 1) ?hd (cs := #[.int .u8 aI, .int .i64 aN, .string aW, .string bF, .string bP, .int .u64 bT]) (t := 46) ?hr ?_; (case hd => rfl); (case hg => rfl); (case hr => first | (go_simp; done) | (go_simp; rfl)); intro aqB hg w6 hbox hb; have aat := ah.mk (hbox); have aau := ah.mk (hs_ hg (VU)); replace HB := ah.mk (ak (VU) hb); have aiU := aau; clear hb hbox hg; obtain ⟨TF, TG, TI, TJ, TK, TL, TM, TN, TP, TQ, TR, TS⟩ := iy aat))
   (go_ret); (exact ⟨by first | rfl | (simp [*, bg, bn] <;> rfl), aiT⟩)
  ·rw [if_neg c5] at H
   (have zU : (aI == 2) = false := beq_eq_false_iff_ne.mpr c5); (have aas : (aI != 2) = true := bne_iff_ne.mpr c5); (obtain rfl := Option.some.inj H); (go_enter Try.func97, Try.ntmps97)
   go_wp2_with (first | ((with_reducible refine bM (N := 1) rfl ?_); refine bU ?hg (N := 1) ?hd (cs := #[.int .u8 aI, .int .i64 aN, .string aW, .string bF, .string bP, .int .u64 bT]) (t := 46) ?hr ?_; (case hd => rfl); (case hg => rfl); (case hr => first | (go_simp; done) | (go_simp; rfl)); intro aqB hg w8 hbox hb; have aat := ah.mk (hbox); have aau := ah.mk (hs_ hg (VU)); replace HB := ah.mk (ak (VU) hb); have aiU := aau; clear hb hbox hg; obtain ⟨atM, atN, atO, atP, atQ, atS, atT, atU, atV, atW, atX, atY⟩ := iy aat))
   (go_ret); (exact ⟨by first | rfl | (simp [*, bg, bn] <;> rfl), aiT⟩)
theorem aqC {P : Prop} (h : P := by repeat (first | exact jg.refl _ | apply jg.step)) : P := h
/-! ### key_ahead: function 137 -/
def rE.f (a0 : ByteArray) (a1 : ByteArray) : Option (Bool) := if a1.toList = ([] : List UInt8) then (some true) else (some (Op.bytesLess a0.toList a1.toList))
set_option maxHeartbeats 8000000 in
set_option maxRecDepth 100000 in
theorem rE.calls (a0 : ByteArray) (a1 : ByteArray) (r : Bool) (w : World) (h : rE.f a0 a1 = some r) :
  Calls Try.prog 137 #[.string a0, .string a1] w fun e w' => e = .returned (.bool r) ∧ jg w w' := by
 (have H : (if a1.toList = ([] : List UInt8) then (some true) else (some (Op.bytesLess a0.toList a1.toList))) = some r := h); (clear h); (by_cases c3 : a1.toList = ([] : List UInt8))
 ·rw [if_pos c3] at H
  (have zn : (a1.toList == ([] : List UInt8)) = true := beq_iff_eq.mpr c3); (have TU : (a1.toList != ([] : List UInt8)) = false := bne_eq_false_iff_eq.mpr c3); (clear c3); (obtain rfl := Option.some.inj H); (go_enter Try.func137, Try.ntmps137); (go_wp2); (go_ret); (exact ⟨by first | rfl | (simp; done) | (simp [*]; done), aqC⟩)
 ·rw [if_neg c3] at H
  (have zn : (a1.toList == ([] : List UInt8)) = false := beq_eq_false_iff_ne.mpr c3); (have TU : (a1.toList != ([] : List UInt8)) = true := bne_iff_ne.mpr c3); (obtain rfl := Option.some.inj H); (go_enter Try.func137, Try.ntmps137); (go_wp2); (go_ret); (exact ⟨by first | rfl | (simp; done) | (simp [*]; done), aqC⟩)
theorem aqD {P : Prop} (h : P := by (with_reducible repeat first | exact HB.out | apply mG | apply ni | apply ny) <;> exact HB.out) : P := h
/-! ### key_RightRange: function 98 -/
def eH.f (aI : ByteArray) (aN : ByteArray) : Option (Bool) := (rE.f aI aN).bind fun t193 => (some t193)
set_option maxHeartbeats 8000000 in
set_option maxRecDepth 100000 in
theorem eH.calls (aI : ByteArray) (aN : ByteArray) (r : Bool) (w : World) (h : eH.f aI aN = some r) :
  Calls Try.prog 98 #[.agg #[.string aI, .string aN]] w fun e w' => e = .returned (.bool r) ∧ Below w.heap.size w w' := by
 (have H_ := Try.underlying48); (have HB := ah.mk (Below.refl w.heap.size w)); (have H : ((rE.f aI aN).bind fun t193 => (some t193)) = some r := h); (clear h); (replace H := Option.bind_eq_some_iff.mp H); (obtain ⟨t193, A20, H⟩ := H); (replace H : (some t193) = some r := H); (have A2 := ah.mk A20); (clear A20); (obtain rfl := Option.some.inj H); (go_enter Try.func98, Try.ntmps98)
 go_wp2_with (first | ((with_reducible refine bM (N := 1) rfl ?_); refine bU ?hg (N := 1) ?hd (cs := #[.string aI, .string aN]) (t := 48) ?hr ?_; (case hd => rfl); (case hg => rfl); (case hr => first | (go_simp; done) | (go_simp; rfl)); intro aM0 hg w3 hbox hb; have aw7 := ah.mk (hbox); have aw8 := ah.mk (hs_ hg (aqD)); replace HB := ah.mk (ak (aqD) hb); have aw9 := aw8; clear hb hbox hg; obtain ⟨XE, XF, XG, XH⟩ := oQ aw7) | ((with_reducible refine aH (f := 137) rfl ?_); refine dD (some 7) rfl rfl Try.func137 (by kernel_rfl) rfl #[.string aI, .string aN] rfl (by (try simp only [List.map_toArray, List.map_cons, List.map_nil]); first | done | rfl) ?_; (with_reducible refine (rE.calls aI aN t193 _ A2.out).mono ?_); rintro e w' ⟨rfl, ⟨nd, rfl⟩⟩; refine ⟨_, rfl, ?_⟩))
 (go_ret); (exact ⟨by first | rfl | (simp [*, bg, bn] <;> rfl), by (with_reducible repeat first | exact HB.out | apply mG | apply ni | apply ny | refine jW ?_ aw9.out) <;> exact HB.out⟩)
/-! ### key_After: function 160 -/
def Cc.f (a0 : ByteArray) : Option (ByteArray) := if a0.size + 1 ≤ 9223372036854775807 then (some (a0 ++ (⟨#[0]⟩ : ByteArray))) else (none)
set_option maxHeartbeats 8000000 in
set_option maxRecDepth 100000 in
theorem Cc.calls (a0 : ByteArray) (r : ByteArray) (w : World) (h : Cc.f a0 = some r) :
  Calls Try.prog 160 #[.string a0] w fun e w' => e = .returned (.string r) ∧ jg w w' := by
 (have H : (if a0.size + 1 ≤ 9223372036854775807 then (some (a0 ++ (⟨#[0]⟩ : ByteArray))) else (none)) = some r := h); (clear h); (by_cases c2 : a0.size + 1 ≤ 9223372036854775807)
 ·rw [if_pos c2] at H
  (have zo := eq_true c2); (have XD : decide (a0.size + 1 ≤ 9223372036854775807) = true := decide_eq_true c2); (try have aJM : (9223372036854775807 < a0.size + 1) = False := eq_false (Nat.not_lt.2 c2)); (obtain rfl := Option.some.inj H); (go_enter Try.func160, Try.ntmps160); (go_wp2); (go_ret); (exact ⟨by first | rfl | (simp; done) | (simp [*]; done), by repeat (first | exact jg.refl _ | apply jg.step)⟩)
 ·rw [if_neg c2] at H
  exact absurd H (by simp)
theorem aqE {P : Prop} (h : P := by (with_reducible repeat first | exact HB.out | apply mG | apply ni | apply ny) <;> exact HB.out) : P := h
theorem aqF {P : Prop} (h : P := by (with_reducible repeat first | exact HB.out | apply mG | apply ni | apply ny | refine jW ?_ aw_.out) <;> exact HB.out) : P := h
/-! ### key_Point: function 138 -/
def vI.f (a0 : ByteArray) : Option (ByteArray × ByteArray) := (Cc.f a0).bind fun acy => (some (a0, acy))
set_option maxHeartbeats 8000000 in
set_option maxRecDepth 100000 in
theorem vI.calls (a0 : ByteArray) (r1 : ByteArray) (r2 : ByteArray) (w : World) (h : vI.f a0 = some (r1, r2)) :
  Calls Try.prog 138 #[.string a0] w fun e w' => e = .returned (.agg #[.string r1, .string r2]) ∧ Below w.heap.size w w' := by
 (have H_ := Try.underlying48); (have HB := ah.mk (Below.refl w.heap.size w)); (have H : ((Cc.f a0).bind fun acy => (some (a0, acy))) = some (r1, r2) := h); (clear h); (replace H := Option.bind_eq_some_iff.mp H); (obtain ⟨acy, A20, H⟩ := H); (replace H : (some (a0, acy)) = some (r1, r2) := H); (have A2 := ah.mk A20); (clear A20); (simp only [Option.some.injEq, Prod.mk.injEq] at H); (obtain ⟨rfl, rfl⟩ := H); (go_enter Try.func138, Try.ntmps138)
 go_wp2_with (first | ((with_reducible refine bM (N := 2) rfl ?_); refine bU ?hg (N := 2) ?hd (cs := #[.string ⟨#[]⟩, .string ⟨#[]⟩]) (t := 48) ?hr ?_; (case hd => rfl); (case hg => rfl); (case hr => first | (go_simp; done) | (go_simp; rfl)); intro aqG hg w3 hbox hb; have aea := ah.mk (hbox); have axa := ah.mk (hs_ hg (aqE)); replace HB := ah.mk (ak (aqE) hb); have aw_ := axa; clear hb hbox hg) | ((with_reducible refine aH (f := 160) rfl ?_); refine dD (some 5) rfl rfl Try.func160 (by kernel_rfl) rfl #[.string a0] rfl (by (try simp only [List.map_toArray, List.map_cons, List.map_nil]); first | done | rfl) ?_; (with_reducible refine (Cc.calls a0 acy _ A2.out).mono ?_); rintro e w' ⟨rfl, ⟨nd, rfl⟩⟩; refine ⟨_, rfl, ?_⟩; (try (rw [acs w3]; generalize hq_ : World.drewN w3 _ = w3; replace aea : ah (w3.heap[aqG]? = some (.cells #[.string ⟨#[]⟩, .string ⟨#[]⟩] 48 (0, 0))) := ⟨by rw [← hq_]; exact (by (with_reducible repeat first | apply iR | apply iT | apply iJ); exact aea.out)⟩; replace HB : ah (Below w.heap.size w w3) := ⟨by rw [← hq_]; exact (aqF)⟩; clear hq_)); obtain ⟨XE, XF, XG, XH⟩ := oQ aea))
 (refine bodyPost_ret (results_cell_row rfl _ _ aqG 48 #[.string a0, .string acy] (0, 0) _ rfl (by (with_reducible repeat first | apply iR | apply iT | apply iJ); refine bJ (cs := #[.string a0, .string ⟨#[]⟩]) ?_ 1 _ rfl; (with_reducible repeat first | apply iR | apply iT | apply iJ); refine bJ (cs := #[.string ⟨#[]⟩, .string ⟨#[]⟩]) ?_ 0 _ rfl; (with_reducible repeat first | apply iR | apply iT | apply iJ); exact aea.out) Try.underlying48 rfl (by kernel_rfl)) rfl ?_); (exact ⟨by first | rfl | (simp [*, bg, bn] <;> rfl), aqF⟩)
theorem aeb {P : Prop} (h : P := by (with_reducible repeat first | exact HB.out | apply mG | apply ni | apply ny) <;> exact HB.out) : P := h
theorem aqH {P : Prop} (h : P := by (with_reducible repeat first | exact HB.out | apply mG | apply ni | apply ny | refine jW ?_ aqI.out) <;> exact HB.out) : P := h
/-! ### key_Holds: function 134 -/
def jE.f (aI : ByteArray) (aN : ByteArray) (a1 : ByteArray) : Option (Bool) := if ((Op.bytesLess a1.toList aI.toList) = true) then (some false) else ((rE.f a1 aN).bind fun ahz => (some ahz))
set_option maxHeartbeats 8000000 in
set_option maxRecDepth 100000 in
theorem jE.calls (aI : ByteArray) (aN : ByteArray) (a1 : ByteArray) (r : Bool) (w : World) (h : jE.f aI aN a1 = some r) :
  Calls Try.prog 134 #[.agg #[.string aI, .string aN], .string a1] w fun e w' => e = .returned (.bool r) ∧ Below w.heap.size w w' := by
 (have H_ := Try.underlying48); (have HB := ah.mk (Below.refl w.heap.size w)); (have H : (if ((Op.bytesLess a1.toList aI.toList) = true) then (some false) else ((rE.f a1 aN).bind fun ahz => (some ahz))) = some r := h); (clear h); (by_cases c3 : ((Op.bytesLess a1.toList aI.toList) = true))
 ·rw [if_pos c3] at H
  (have zn : (Op.bytesLess a1.toList aI.toList) = true := c3); (clear c3); (obtain rfl := Option.some.inj H); (go_enter Try.func134, Try.ntmps134)
  go_wp2_with (first | ((with_reducible refine bM (N := 2) rfl ?_); refine bU ?hg (N := 2) ?hd (cs := #[.string aI, .string aN]) (t := 48) ?hr ?_; (case hd => rfl); (case hg => rfl); (case hr => first | (go_simp; done) | (go_simp; rfl)); intro axb hg w4 hbox hb; have aiV := ah.mk (hbox); have aiW := ah.mk (hs_ hg (aeb)); replace HB := ah.mk (ak (aeb) hb); have aqI := aiW; clear hb hbox hg; obtain ⟨aiX, aiY, aiZ, ai0⟩ := oQ aiV))
  (go_ret); (exact ⟨by first | rfl | (simp [*, bg, bn] <;> rfl), aqH⟩)
 ·rw [if_neg c3] at H
  (have zn : (Op.bytesLess a1.toList aI.toList) = false := by simpa using c3); (clear c3); (replace H := Option.bind_eq_some_iff.mp H); (obtain ⟨ahz, A60, H⟩ := H); (replace H : (some ahz) = some r := H); (have A6 := ah.mk A60); (clear A60); (obtain rfl := Option.some.inj H); (go_enter Try.func134, Try.ntmps134)
  go_wp2_with (first | ((with_reducible refine bM (N := 2) rfl ?_); refine bU ?hg (N := 2) ?hd (cs := #[.string aI, .string aN]) (t := 48) ?hr ?_; (case hd => rfl); (case hg => rfl); (case hr => first | (go_simp; done) | (go_simp; rfl)); intro axb hg w7 hbox hb; have aiV := ah.mk (hbox); have aiW := ah.mk (hs_ hg (aeb)); replace HB := ah.mk (ak (aeb) hb); have aqI := aiW; clear hb hbox hg; obtain ⟨Ed, Ee, Ef, Eh⟩ := oQ aiV) | (go_at_call 137; (with_reducible refine (rE.calls a1 aN ahz _ A6.out).mono ?_); rintro e w' ⟨rfl, ⟨nd, rfl⟩⟩))
  (go_ret); (exact ⟨by first | rfl | (simp [*, bg, bn] <;> rfl), aqH⟩)
theorem ai1 {P : Prop} (h : P := by repeat (first | exact jg.refl _ | apply jg.step)) : P := h
/-! ### key_Before: function 136 -/
def o8.f (a0 : ByteArray) (a1 : ByteArray) : Option (Bool) := if a0.toList = ([] : List UInt8) then (some false) else (if a1.toList = ([] : List UInt8) then (some (a1.toList == ([] : List UInt8))) else (some (Op.bytesLess a0.toList a1.toList)))
set_option maxHeartbeats 8000000 in
set_option maxRecDepth 100000 in
theorem o8.calls (a0 : ByteArray) (a1 : ByteArray) (r : Bool) (w : World) (h : o8.f a0 a1 = some r) :
  Calls Try.prog 136 #[.string a0, .string a1] w fun e w' => e = .returned (.bool r) ∧ jg w w' := by
 (have H : (if a0.toList = ([] : List UInt8) then (some false) else (if a1.toList = ([] : List UInt8) then (some (a1.toList == ([] : List UInt8))) else (some (Op.bytesLess a0.toList a1.toList)))) = some r := h); (clear h); (by_cases c3 : a0.toList = ([] : List UInt8))
 ·rw [if_pos c3] at H
  (have zn : (a0.toList == ([] : List UInt8)) = true := beq_iff_eq.mpr c3); (have TU : (a0.toList != ([] : List UInt8)) = false := bne_eq_false_iff_eq.mpr c3); (clear c3); (obtain rfl := Option.some.inj H); (go_enter Try.func136, Try.ntmps136); (go_wp2); (go_ret); (exact ⟨by first | rfl | (simp; done) | (simp [*]; done), ai1⟩)
 ·rw [if_neg c3] at H
  (have zn : (a0.toList == ([] : List UInt8)) = false := beq_eq_false_iff_ne.mpr c3); (have TU : (a0.toList != ([] : List UInt8)) = true := bne_iff_ne.mpr c3); (by_cases c4 : a1.toList = ([] : List UInt8))
  ·rw [if_pos c4] at H
   (have uG : (a1.toList == ([] : List UInt8)) = true := beq_iff_eq.mpr c4); (have XI : (a1.toList != ([] : List UInt8)) = false := bne_eq_false_iff_eq.mpr c4); (clear c4); (obtain rfl := Option.some.inj H); (go_enter Try.func136, Try.ntmps136); (go_wp2); (go_ret); (exact ⟨by first | rfl | (simp; done) | (simp [*]; done), ai1⟩)
  ·rw [if_neg c4] at H
   (have uG : (a1.toList == ([] : List UInt8)) = false := beq_eq_false_iff_ne.mpr c4); (have XI : (a1.toList != ([] : List UInt8)) = true := bne_iff_ne.mpr c4); (obtain rfl := Option.some.inj H); (go_enter Try.func136, Try.ntmps136); (go_wp2); (go_ret); (exact ⟨by first | rfl | (simp; done) | (simp [*]; done), ai1⟩)
theorem aqJ {P : Prop} (h : P := by repeat (first | exact jg.refl _ | apply jg.step)) : P := h
/-! ### key_First: function 159 -/
def rF.f (a0 : ByteArray) (a1 : ByteArray) : Option (ByteArray) := (o8.f a1 a0).bind fun t203 => (if t203 = true then (some a1) else (some a0))
set_option maxHeartbeats 8000000 in
set_option maxRecDepth 100000 in
theorem rF.calls (a0 : ByteArray) (a1 : ByteArray) (r : ByteArray) (w : World) (h : rF.f a0 a1 = some r) :
  Calls Try.prog 159 #[.string a0, .string a1] w fun e w' => e = .returned (.string r) ∧ jg w w' := by
 (have H : ((o8.f a1 a0).bind fun t203 => (if t203 = true then (some a1) else (some a0))) = some r := h); (clear h); (replace H := Option.bind_eq_some_iff.mp H); (obtain ⟨t203, Iz, H⟩ := H); (replace H : (if t203 = true then (some a1) else (some a0)) = some r := H); (have A3 := ah.mk Iz); (clear Iz); (by_cases c4 : t203 = true)
 ·subst c4
  (have H1 : (some a1) = some r := by rw [if_pos rfl] at H; exact H); (clear H); (have H := H1); (clear H1); (obtain rfl := Option.some.inj H); (go_enter Try.func159, Try.ntmps159); (go_wp2_with (first | ((with_reducible refine aH (f := 136) rfl ?_); refine dD (some 7) rfl rfl Try.func136 (by kernel_rfl) rfl #[.string a1, .string a0] rfl (by (try simp only [List.map_toArray, List.map_cons, List.map_nil]); first | done | rfl) ?_; (with_reducible refine (o8.calls a1 a0 true _ A3.out).mono ?_); rintro e w' ⟨rfl, ⟨nd, rfl⟩⟩; refine ⟨_, rfl, ?_⟩))); (go_ret); (exact ⟨by first | rfl | (simp; done) | (simp [*]; done), aqJ⟩)
 ·replace c4 := Bool.eq_false_iff.mpr c4
  (subst c4); (have H1 : (some a0) = some r := by rw [if_neg (show ¬ (false = true) by decide)] at H; exact H); (clear H); (have H := H1); (clear H1); (obtain rfl := Option.some.inj H); (go_enter Try.func159, Try.ntmps159); (go_wp2_with (first | ((with_reducible refine aH (f := 136) rfl ?_); refine dD (some 7) rfl rfl Try.func136 (by kernel_rfl) rfl #[.string a1, .string a0] rfl (by (try simp only [List.map_toArray, List.map_cons, List.map_nil]); first | done | rfl) ?_; (with_reducible refine (o8.calls a1 a0 false _ A3.out).mono ?_); rintro e w' ⟨rfl, ⟨nd, rfl⟩⟩; refine ⟨_, rfl, ?_⟩))); (go_ret); (exact ⟨by first | rfl | (simp; done) | (simp [*]; done), aqJ⟩)
theorem aqK {P : Prop} (h : P := by (with_reducible repeat first | exact HB.out | apply mG | apply ni | apply ny) <;> exact HB.out) : P := h
/-! ### msg_Size: function 108 -/
def Nr.f (aI : Int) (aN : Int) (aW : ByteArray) (bF : ByteArray) (bP : ByteArray) (bT : Int) : Option (Int) := some (wrap64 ((wrap64 ((wrap64 (16 + (aW.size : Int))) + (bF.size : Int))) + (bP.size : Int)))
set_option maxHeartbeats 8000000 in
set_option maxRecDepth 100000 in
theorem Nr.calls (aI : Int) (aN : Int) (aW : ByteArray) (bF : ByteArray) (bP : ByteArray) (bT : Int) (r : Int) (w : World) (h : Nr.f aI aN aW bF bP bT = some r) :
  Calls Try.prog 108 #[.agg #[.int .u8 aI, .int .i64 aN, .string aW, .string bF, .string bP, .int .u64 bT]] w fun e w' => e = .returned (.int .i64 r) ∧ Below w.heap.size w w' := by
 (have vU := Try.underlying46); (have HB := ah.mk (Below.refl w.heap.size w)); (have H : (some (wrap64 ((wrap64 ((wrap64 (16 + (aW.size : Int))) + (bF.size : Int))) + (bP.size : Int)))) = some r := h); (clear h); (obtain rfl := Option.some.inj H); (go_enter Try.func108, Try.ntmps108)
 go_wp2_with (first | ((with_reducible refine bM (N := 1) rfl ?_); refine bU ?hg (N := 1) ?hd (cs := #[.int .u8 aI, .int .i64 aN, .string aW, .string bF, .string bP, .int .u64 bT]) (t := 46) ?hr ?_; (case hd => rfl); (case hg => rfl); (case hr => first | (go_simp; done) | (go_simp; rfl)); intro aM1 hg w2 hbox hb; have axc := ah.mk (hbox); have axd := ah.mk (hs_ hg (aqK)); replace HB := ah.mk (ak (aqK) hb); have axe := axd; clear hb hbox hg; obtain ⟨aJN, aJO, aJP, aJQ, aJR, aJS, aJT, aJU, aJV, aJW, aJX, aJY⟩ := iy axc))
 (go_ret); (exact ⟨by first | rfl | (simp [*, bg, bn] <;> rfl), by (with_reducible repeat first | exact HB.out | apply mG | apply ni | apply ny | refine jW ?_ axe.out) <;> exact HB.out⟩)
theorem aec {P : Prop} (h : P := by (with_reducible repeat first | exact HB.out | apply mG | apply ni | apply ny) <;> exact HB.out) : P := h
theorem aqL {P : Prop} (h : P := by (with_reducible repeat first | exact HB.out | apply mG | apply ni | apply ny | refine jW ?_ axf.out) <;> exact HB.out) : P := h
/-! ### buffer_Bytes: function 54 -/
def fK.l0 : Nat → Int → List (bC) → Int → Int → Option (Int)
 | 0, _, _, _, _ => none
 | k + 1, x3, x6, x7, x8 => if x8 < x7 then (if 0 ≤ x8 then (if x8 < (x6.length : Int) then ((Nr.f ((aj x6 x8).f0) ((aj x6 x8).f1) ((aj x6 x8).f2) ((aj x6 x8).f3) ((aj x6 x8).f4) ((aj x6 x8).f5)).bind fun ai2 => (fK.l0 k (wrap64 (x3 + ai2)) x6 x7 (wrap64 (x8 + 1)))) else (none)) else (none)) else (some x3)
def fK.f (k : Nat) (l0 : List (bC)) : Option (Int) := fK.l0 k 0 l0 (l0.length : Int) 0
theorem fK.gB : ∀ k, (∀ y0 y1 y2 y3, dO (fK.l0 k y0 y1 y2 y3) (fK.l0 (k + 1) y0 y1 y2 y3))
 | 0 => fun _ _ _ _ r h => by simp [fK.l0] at h
 | k + 1 => by
  have lS := fK.gB k
  ·intro y0 y1 y2 y3
   unfold fK.l0
   repeat' (with_reducible first | exact lS _ _ _ _ | exact dO.refl _ | exact dO.none _ | refine dO.ite ?_ ?_ | refine dO.bind ?_ (fun _ => ?_))
theorem fK.mono : ∀ a0 k, dO (fK.f k a0) (fK.f (k + 1) a0) := by
 (intro a0 k); (have lS := fK.gB k); (unfold fK.f)
 repeat' (with_reducible first | exact lS _ _ _ _ | exact dO.refl _ | exact dO.none _ | refine dO.ite ?_ ?_ | refine dO.bind ?_ (fun _ => ?_))
set_option maxHeartbeats 8000000 in
set_option maxRecDepth 100000 in
theorem fK.calls (k : Nat) (A0 : Option Addr) (c0 : Nat) (l0 : List (bC)) (r : Int) (w : World) (hr0 : Kd.C k46 w A0 l0.length l0) (hc0 : l0.length ≤ c0) (h : fK.f k l0 = some r) :
  Calls Try.prog 54 #[.slice A0 l0.length c0] w fun e w' => e = .returned (.int .i64 r) ∧ Below w.heap.size w w' := by
 (have vU := Try.underlying46); (have HR0 := ah.mk hr0); (have QK := ah.mk hc0); (clear hr0 hc0); (have HB := ah.mk (Below.refl w.heap.size w)); (have H : (fK.l0 k 0 l0 (l0.length : Int) 0) = some r := h); (clear h); (have H' := ah.mk H); (clear H); (go_enter Try.func54, Try.ntmps54); (go_wp2); (go_loopg [3, 8] k (fun kq v3 v8 w' => ∃ (aV : Int) (jd : Int), v3 = .int .i64 aV ∧ v8 = .int .i64 jd ∧ ah (fK.l0 kq aV l0 (l0.length : Int) jd = some r) ∧ ah (kq ≤ k) ∧ ah (Below w.heap.size w w')))
 case atStart => exact ⟨(0), (0), (by first | rfl | (simp; done) | (simp [*]; done)), (by first | rfl | (simp; done) | (simp [*]; done)), H', ⟨Nat.le_refl _⟩, ⟨aec⟩⟩
 case round =>
  (clear H'); (obtain ⟨aV, jd, rfl, rfl, HA, oh, HB⟩ := hrel)
  cases gk with
  | zero => exact absurd HA.out (by simp [fK.l0])
  | succ k1 =>
   (have H := HA.out); (clear HA); (simp only [fK.l0] at H); (by_cases c2 : jd < (l0.length : Int))
   ·rw [if_pos c2] at H
    (have zo : decide (jd < (l0.length : Int)) = true := decide_eq_true c2); (clear c2); (by_cases c3 : 0 ≤ jd)
    ·rw [if_pos c3] at H
     (have zn : decide (0 ≤ jd) = true := decide_eq_true c3); (clear c3); (by_cases c4 : jd < (l0.length : Int))
     ·rw [if_pos c4] at H
      (have uG : decide (jd < (l0.length : Int)) = true := decide_eq_true c4); (clear c4); (replace H := Option.bind_eq_some_iff.mp H); (obtain ⟨ai2, A50, H⟩ := H); (replace H : (fK.l0 k1 (wrap64 (aV + ai2)) l0 (l0.length : Int) (wrap64 (jd + 1))) = some r := H); (have A5 := ah.mk A50); (clear A50); (have H' := ah.mk H); (clear H); (have atZ : 0 ≤ (jd : Int) := of_decide_eq_true (by first | (with_reducible assumption) | assumption)); (have at1 : jd < (l0.length : Int) := of_decide_eq_true (by first | (with_reducible assumption) | assumption)); (obtain ⟨aM2, aJZ, aed, aee, aef, aeg, aeh, aei⟩ := gJ HR0.out jd atZ at1); (cases aJZ); (replace aed := gq HB aed); (replace aee := gq HB aee); (replace aef := gq HB aef); (replace aeg := gq HB aeg); (replace aeh := gq HB aeh)
      (replace aei := gq HB aei); (replace atZ := eq_true atZ); (replace at1 := eq_true at1)
      go_wp2_with (first | ((with_reducible refine bM (N := 5) rfl ?_); refine bU ?hg (N := 5) ?hd (cs := #[.int .u8 0, .int .i64 0, .string ⟨#[]⟩, .string ⟨#[]⟩, .string ⟨#[]⟩, .int .u64 0]) (t := 46) ?hr ?_; (case hd => rfl); (case hg => rfl); (case hr => first | (go_simp; done) | (go_simp; rfl)); intro axg hg w6 hbox hb; have ai3 := ah.mk (hbox); have axh := ah.mk (hs_ hg (aec)); replace HB := ah.mk (ak (aec) hb); have axf := axh; clear hb hbox hg; obtain ⟨TF, TG, TI, TJ, TK, TL, TM, TN, TP, TQ, TR, TS⟩ := iy ai3) | ((with_reducible refine aH (f := 108) rfl ?_); refine dD (some 14) rfl rfl Try.func108 (by kernel_rfl) rfl #[.agg #[.int .u8 ((aj l0 jd).f0), .int .i64 ((aj l0 jd).f1), .string ((aj l0 jd).f2), .string ((aj l0 jd).f3), .string ((aj l0 jd).f4), .int .u64 ((aj l0 jd).f5)]] rfl (by (try simp only [List.map_toArray, List.map_cons, List.map_nil]); first | done | rfl) ?_; (with_reducible refine (Nr.calls ((aj l0 jd).f0) ((aj l0 jd).f1) ((aj l0 jd).f2) ((aj l0 jd).f3) ((aj l0 jd).f4) ((aj l0 jd).f5) ai2 _ A5.out).mono ?_); rintro e w8 ⟨rfl, hb⟩; refine ⟨_, rfl, ?_⟩; replace ai3 := ah.mk (aA (g := axg) (o := .cells #[.int .u8 ((aj l0 jd).f0), .int .i64 ((aj l0 jd).f1), .string ((aj l0 jd).f2), .string ((aj l0 jd).f3), .string ((aj l0 jd).f4), .int .u64 ((aj l0 jd).f5)] 46 (0, 0)) (by (with_reducible repeat first | apply iR | apply iT | apply iJ); refine bJ (cs := #[.int .u8 ((aj l0 jd).f0), .int .i64 ((aj l0 jd).f1), .string ((aj l0 jd).f2), .string ((aj l0 jd).f3), .string ((aj l0 jd).f4), .int .u64 0]) ?_ 5 _ rfl; (with_reducible repeat first | apply iR | apply iT | apply iJ); refine bJ (cs := #[.int .u8 ((aj l0 jd).f0), .int .i64 ((aj l0 jd).f1), .string ((aj l0 jd).f2), .string ((aj l0 jd).f3), .string ⟨#[]⟩, .int .u64 0]) ?_ 4 _ rfl; (with_reducible repeat first | apply iR | apply iT | apply iJ); refine bJ (cs := #[.int .u8 ((aj l0 jd).f0), .int .i64 ((aj l0 jd).f1), .string ((aj l0 jd).f2), .string ⟨#[]⟩, .string ⟨#[]⟩, .int .u64 0]) ?_ 3 _ rfl; (with_reducible repeat first | apply iR | apply iT | apply iJ); refine bJ (cs := #[.int .u8 ((aj l0 jd).f0), .int .i64 ((aj l0 jd).f1), .string ⟨#[]⟩, .string ⟨#[]⟩, .string ⟨#[]⟩, .int .u64 0]) ?_ 2 _ rfl; (with_reducible repeat first | apply iR | apply iT | apply iJ); refine bJ (cs := #[.int .u8 ((aj l0 jd).f0), .int .i64 0, .string ⟨#[]⟩, .string ⟨#[]⟩, .string ⟨#[]⟩, .int .u64 0]) ?_ 1 _ rfl; (with_reducible repeat first | apply iR | apply iT | apply iJ); refine bJ (cs := #[.int .u8 0, .int .i64 0, .string ⟨#[]⟩, .string ⟨#[]⟩, .string ⟨#[]⟩, .int .u64 0]) ?_ 0 _ rfl; (with_reducible repeat first | apply iR | apply iT | apply iJ); exact ai3.out) hb); replace HB := ah.mk (ak (aqL) hb); (try clear hb); (try clear hb2); (try clear hk); (try clear hi)))
      go_roundg k1
      case measure => have := oh.out; omega
      case rel => exact ⟨(wrap64 (aV + ai2)), (wrap64 (jd + 1)), (by first | rfl | (simp; done) | (simp [*]; done)), (by first | rfl | (simp; done) | (simp [*]; done)), H', ⟨by have := oh.out; omega⟩, ⟨aqL⟩⟩
     ·rw [if_neg c4] at H
      exact absurd H (by simp)
    ·rw [if_neg c3] at H
     exact absurd H (by simp)
   ·rw [if_neg c2] at H
    (have zo : decide (jd < (l0.length : Int)) = false := decide_eq_false c2); (clear c2); (obtain rfl := Option.some.inj H); (go_wp2); (go_ret); (exact ⟨by first | rfl | (simp [*, bg, bn] <;> rfl), aec⟩)
theorem axi (d : Nat) (w : World) (x0 y0 : Int) (x1 y1 : Int) (x2 y2 : ByteArray) (x3 y3 : ByteArray) (x4 y4 : ByteArray) (x5 y5 : Int) :
  (Op.equalIn (d + 2) 46 (.agg #[.int .u8 x0, .int .i64 x1, .string x2, .string x3, .string x4, .int .u64 x5]) (.agg #[.int .u8 y0, .int .i64 y1, .string y2, .string y3, .string y4, .int .u64 y5])).run Try.prog w = .ok (x0 == y0 && (x1 == y1 && (x2.toList == y2.toList && (x3.toList == y3.toList && (x4.toList == y4.toList && (x5 == y5)))))) w := by
 refine atn Try.underlying46 (by kernel_rfl) ?_
 refine Ij (by rfl) (by go_simp; rfl) (by go_simp; rfl) (by go_simp) ?_
 refine Ij (by rfl) (by go_simp; rfl) (by go_simp; rfl) (by go_simp) ?_
 refine Ij (by rfl) (by go_simp; rfl) (by go_simp; rfl) (by go_simp) ?_
 refine Ij (by rfl) (by go_simp; rfl) (by go_simp; rfl) (by go_simp) ?_
 refine Ij (by rfl) (by go_simp; rfl) (by go_simp; rfl) (by go_simp) ?_
 exact aiD (by rfl) (by go_simp; rfl) (by go_simp; rfl) (by go_simp)
theorem VW {P : Prop} (h : P := by (with_reducible repeat first | exact HB.out | apply mG | apply ni | apply ny) <;> exact HB.out) : P := h
theorem ai4 {P : Prop} (h : P := by (with_reducible repeat first | exact HB.out | apply mG | apply ni | apply ny | refine jW ?_ ai5.out) <;> exact HB.out) : P := h
/-! ### catchmentref02_Holds: function 47 -/
def iZ.f (aI : ByteArray) (aN : ByteArray) (a1 : ByteArray) : Option (Bool) := if ((Op.bytesLess a1.toList aI.toList) = true) then (some false) else (if aN.toList = ([] : List UInt8) then (some true) else (some (Op.bytesLess a1.toList aN.toList)))
set_option maxHeartbeats 8000000 in
set_option maxRecDepth 100000 in
theorem iZ.calls (aI : ByteArray) (aN : ByteArray) (a1 : ByteArray) (r : Bool) (w : World) (h : iZ.f aI aN a1 = some r) :
  Calls Try.prog 47 #[.agg #[.string aI, .string aN], .string a1] w fun e w' => e = .returned (.bool r) ∧ Below w.heap.size w w' := by
 (have H_ := Try.underlying48); (have HB := ah.mk (Below.refl w.heap.size w)); (have H : (if ((Op.bytesLess a1.toList aI.toList) = true) then (some false) else (if aN.toList = ([] : List UInt8) then (some true) else (some (Op.bytesLess a1.toList aN.toList)))) = some r := h); (clear h); (by_cases c3 : ((Op.bytesLess a1.toList aI.toList) = true))
 ·rw [if_pos c3] at H
  (have zn : (Op.bytesLess a1.toList aI.toList) = true := c3); (clear c3); (obtain rfl := Option.some.inj H); (go_enter Try.func47, Try.ntmps47)
  go_wp2_with (first | ((with_reducible refine bM (N := 2) rfl ?_); refine bU ?hg (N := 2) ?hd (cs := #[.string aI, .string aN]) (t := 48) ?hr ?_; (case hd => rfl); (case hg => rfl); (case hr => first | (go_simp; done) | (go_simp; rfl)); intro aqM hg w4 hbox hb; have aav := ah.mk (hbox); have aaw := ah.mk (hs_ hg (VW)); replace HB := ah.mk (ak (VW) hb); have ai5 := aaw; clear hb hbox hg; obtain ⟨aiX, aiY, aiZ, ai0⟩ := oQ aav))
  (go_ret); (exact ⟨by first | rfl | (simp [*, bg, bn] <;> rfl), ai4⟩)
 ·rw [if_neg c3] at H
  (have zn : (Op.bytesLess a1.toList aI.toList) = false := by simpa using c3); (clear c3); (by_cases c6 : aN.toList = ([] : List UInt8))
  ·rw [if_pos c6] at H
   (have uw : (aN.toList == ([] : List UInt8)) = true := beq_iff_eq.mpr c6); (have QL : (aN.toList != ([] : List UInt8)) = false := bne_eq_false_iff_eq.mpr c6); (clear c6); (obtain rfl := Option.some.inj H); (go_enter Try.func47, Try.ntmps47)
   go_wp2_with (first | ((with_reducible refine bM (N := 2) rfl ?_); refine bU ?hg (N := 2) ?hd (cs := #[.string aI, .string aN]) (t := 48) ?hr ?_; (case hd => rfl); (case hg => rfl); (case hr => first | (go_simp; done) | (go_simp; rfl)); intro aqM hg w7 hbox hb; have aav := ah.mk (hbox); have aaw := ah.mk (hs_ hg (VW)); replace HB := ah.mk (ak (VW) hb); have ai5 := aaw; clear hb hbox hg; obtain ⟨Ed, Ee, Ef, Eh⟩ := oQ aav))
   (go_ret); (exact ⟨by first | rfl | (simp [*, bg, bn] <;> rfl), ai4⟩)
  ·rw [if_neg c6] at H
   (have uw : (aN.toList == ([] : List UInt8)) = false := beq_eq_false_iff_ne.mpr c6); (have QL : (aN.toList != ([] : List UInt8)) = true := bne_iff_ne.mpr c6); (obtain rfl := Option.some.inj H); (go_enter Try.func47, Try.ntmps47)
   go_wp2_with (first | ((with_reducible refine bM (N := 2) rfl ?_); refine bU ?hg (N := 2) ?hd (cs := #[.string aI, .string aN]) (t := 48) ?hr ?_; (case hd => rfl); (case hg => rfl); (case hr => first | (go_simp; done) | (go_simp; rfl)); intro aqM hg w9 hbox hb; have aav := ah.mk (hbox); have aaw := ah.mk (hs_ hg (VW)); replace HB := ah.mk (ak (VW) hb); have ai5 := aaw; clear hb hbox hg; obtain ⟨FH, FI, FM, FN⟩ := oQ aav))
   (go_ret); (exact ⟨by first | rfl | (simp [*, bg, bn] <;> rfl), ai4⟩)
theorem at6 {P : Prop} (h : P := by repeat (first | exact jg.refl _ | apply jg.step)) : P := h
/-! ### catchmentref02_Before: function 128 -/
def gY.f (a0 : ByteArray) (a1 : ByteArray) : Option (Bool) := if a0.toList = ([] : List UInt8) then (some false) else (if a1.toList = ([] : List UInt8) then (some true) else (some (Op.bytesLess a0.toList a1.toList)))
set_option maxHeartbeats 8000000 in
set_option maxRecDepth 100000 in
theorem gY.calls (a0 : ByteArray) (a1 : ByteArray) (r : Bool) (w : World) (h : gY.f a0 a1 = some r) :
  Calls Try.prog 128 #[.string a0, .string a1] w fun e w' => e = .returned (.bool r) ∧ jg w w' := by
 (have H : (if a0.toList = ([] : List UInt8) then (some false) else (if a1.toList = ([] : List UInt8) then (some true) else (some (Op.bytesLess a0.toList a1.toList)))) = some r := h); (clear h); (by_cases c3 : a0.toList = ([] : List UInt8))
 ·rw [if_pos c3] at H
  (have zn : (a0.toList == ([] : List UInt8)) = true := beq_iff_eq.mpr c3); (have TU : (a0.toList != ([] : List UInt8)) = false := bne_eq_false_iff_eq.mpr c3); (clear c3); (obtain rfl := Option.some.inj H); (go_enter Try.func128, Try.ntmps128); (go_wp2); (go_ret); (exact ⟨by first | rfl | (simp; done) | (simp [*]; done), at6⟩)
 ·rw [if_neg c3] at H
  (have zn : (a0.toList == ([] : List UInt8)) = false := beq_eq_false_iff_ne.mpr c3); (have TU : (a0.toList != ([] : List UInt8)) = true := bne_iff_ne.mpr c3); (by_cases c4 : a1.toList = ([] : List UInt8))
  ·rw [if_pos c4] at H
   (have uG : (a1.toList == ([] : List UInt8)) = true := beq_iff_eq.mpr c4); (have XI : (a1.toList != ([] : List UInt8)) = false := bne_eq_false_iff_eq.mpr c4); (clear c4); (obtain rfl := Option.some.inj H); (go_enter Try.func128, Try.ntmps128); (go_wp2); (go_ret); (exact ⟨by first | rfl | (simp; done) | (simp [*]; done), at6⟩)
  ·rw [if_neg c4] at H
   (have uG : (a1.toList == ([] : List UInt8)) = false := beq_eq_false_iff_ne.mpr c4); (have XI : (a1.toList != ([] : List UInt8)) = true := bne_iff_ne.mpr c4); (obtain rfl := Option.some.inj H); (go_enter Try.func128, Try.ntmps128); (go_wp2); (go_ret); (exact ⟨by first | rfl | (simp; done) | (simp [*]; done), at6⟩)
theorem aax {P : Prop} (h : P := by (with_reducible repeat first | exact HB.out | apply mG | apply ni | apply ny) <;> exact HB.out) : P := h
/-! ### catchmentref03_Put: function 167 -/
def cu.l0 : Nat → Int → ByteArray → Int → Option (ByteArray)
 | 0, _, _, _ => none
 | k + 1, x0, x3, x4 => if x4 < 8 then ((some (([(Int.tmod x0 256) % 256] : List Int) : List Int)).bind fun XJ => (if (strOfNums XJ).size + x3.size ≤ 9223372036854775807 then (cu.l0 k (IntKind.u64.wrap (Int.tdiv x0 256)) ((strOfNums XJ) ++ x3) (wrap64 (x4 + 1))) else (none))) else (some x3)
def cu.f (k : Nat) (a0 : Int) : Option (ByteArray) := cu.l0 k a0 (⟨#[]⟩ : ByteArray) 0
theorem cu.gB : ∀ k, (∀ y0 y1 y2, dO (cu.l0 k y0 y1 y2) (cu.l0 (k + 1) y0 y1 y2))
 | 0 => fun _ _ _ r h => by simp [cu.l0] at h
 | k + 1 => by
  have lS := cu.gB k
  ·intro y0 y1 y2
   unfold cu.l0
   repeat' (with_reducible first | exact lS _ _ _ | exact dO.refl _ | exact dO.none _ | refine dO.ite ?_ ?_ | refine dO.bind ?_ (fun _ => ?_))
theorem cu.mono : ∀ a0 k, dO (cu.f k a0) (cu.f (k + 1) a0) := by
 (intro a0 k); (have lS := cu.gB k); (unfold cu.f)
 repeat' (with_reducible first | exact lS _ _ _ | exact dO.refl _ | exact dO.none _ | refine dO.ite ?_ ?_ | refine dO.bind ?_ (fun _ => ?_))
set_option maxHeartbeats 8000000 in
set_option maxRecDepth 100000 in
theorem cu.calls (k : Nat) (a0 : Int) (r : ByteArray) (w : World) (h : cu.f k a0 = some r) :
  Calls Try.prog 167 #[.int .u64 a0] w fun e w' => e = .returned (.string r) ∧ Below w.heap.size w w' := by
 (have HB := ah.mk (Below.refl w.heap.size w)); (have H : (cu.l0 k a0 (⟨#[]⟩ : ByteArray) 0) = some r := h); (clear h); (have H' := ah.mk H); (clear H); (go_enter Try.func167, Try.ntmps167); (go_wp2); (go_loopg [0, 3, 4] k (fun kq v0 v3 v4 w' => ∃ (gu : Int) (aV : ByteArray) (Px : Int), v0 = .int .u64 gu ∧ v3 = .string aV ∧ v4 = .int .i64 Px ∧ ah (cu.l0 kq gu aV Px = some r) ∧ ah (kq ≤ k) ∧ ah (Below w.heap.size w w')))
 case atStart => exact ⟨(a0), ((⟨#[]⟩ : ByteArray)), (0), (by first | rfl | (simp; done) | (simp [*]; done)), (by first | rfl | (simp; done) | (simp [*]; done)), (by first | rfl | (simp; done) | (simp [*]; done)), H', ⟨Nat.le_refl _⟩, ⟨aax⟩⟩
 case round =>
  (clear H'); (try clear c1); (obtain ⟨gu, aV, Px, rfl, rfl, rfl, HA, oh, HB⟩ := hrel)
  cases gk with
  | zero => exact absurd HA.out (by simp [cu.l0])
  | succ k1 =>
   (have H := HA.out); (clear HA); (simp only [cu.l0] at H); (by_cases c2 : Px < 8)
   ·rw [if_pos c2] at H
    (have zo : decide (Px < 8) = true := decide_eq_true c2); (clear c2); (obtain ⟨XJ, aay⟩ : ∃ y_ : List Int, y_ = (([(Int.tmod gu 256) % 256] : List Int)) := ⟨_, rfl⟩); (replace H : (if (strOfNums XJ).size + aV.size ≤ 9223372036854775807 then (cu.l0 k1 (IntKind.u64.wrap (Int.tdiv gu 256)) ((strOfNums XJ) ++ aV) (wrap64 (Px + 1))) else (none)) = some r := by first | (rw [aay]; with_reducible exact H) | (have kJ := (Option.bind_some _ _).symm.trans H; rw [aay]; with_reducible exact kJ) | (have kJ := (Option.bind_some _ _).symm.trans H; with_reducible exact kJ) | with_reducible exact H | (rw [aay]; exact H) | exact H); (have aqN := ah.mk aay); (clear aay); (by_cases c3 : (strOfNums XJ).size + aV.size ≤ 9223372036854775807)
    ·rw [if_pos c3] at H
     (have zn := eq_true c3); (have TU : decide ((strOfNums XJ).size + aV.size ≤ 9223372036854775807) = true := decide_eq_true c3); (try have at7 : (9223372036854775807 < (strOfNums XJ).size + aV.size) = False := eq_false (Nat.not_lt.2 c3)); (have H' := ah.mk H); (clear H)
     go_wp2_with (first | ((with_reducible refine bM (N := 12) rfl ?_); refine Kd.tZ (Kd.int .u8) _ 5 ?hg (N := 12) ?hd (xs := ([(Int.tmod gu 256) % 256] : List Int)) (inner := [.int .u8 ((Int.tmod gu 256) % 256)]) (ok := fun _ => True) (yP := fun _ => True) ?hr ?hp (fun _ hk => hk) trivial (Below.refl _ _) (Nat.le_refl _) (by simp) ?_; (case hd => rfl); (case hg => rfl); (case hr => first | (go_simp; done) | (go_simp; rfl)); (case hp => exact (iU.one (show Kd.M (Kd.int .u8) _ _ _ ((Int.tmod gu 256) % 256) [.int .u8 ((Int.tmod gu 256) % 256)] from rfl) (iU.none _ _))); intro aOZ w4 ho5 hb tC kT; clear tC kT; (first | rw [← aqN.out] at ho5 | (simp only [Int.reduceToNat] at ho5; rw [← aqN.out] at ho5)); have axj := ah.mk (Kd.gy ho5 (cZ (aax))); replace HB := ah.mk (ak (aax) hb); clear hb ho5; have aO0 := acd (P := Try.prog) Try.underlying114 Try.underlying5 Try.underlying9 (Kd.air axj.out)))
     go_roundg k1
     case measure => have := oh.out; omega
     case rel => exact ⟨(IntKind.u64.wrap (Int.tdiv gu 256)), ((strOfNums XJ) ++ aV), (wrap64 (Px + 1)), (by first | rfl | (simp; done) | (simp [*]; done)), (by first | rfl | (simp; done) | (simp [*]; done)), (by first | rfl | (simp; done) | (simp [*]; done)), H', ⟨by have := oh.out; omega⟩, ⟨aax⟩⟩
    ·rw [if_neg c3] at H
     exact absurd H (by simp)
   ·rw [if_neg c2] at H
    (have zo : decide (Px < 8) = false := decide_eq_false c2); (clear c2); (obtain rfl := Option.some.inj H); (go_wp2); (go_ret); (exact ⟨by first | rfl | (simp [*, bg, bn] <;> rfl), aax⟩)
theorem aej {P : Prop} (h : P := by repeat (first | exact jg.refl _ | apply jg.step)) : P := h
/-! ### catchmentref03_Take: function 168 -/
def dw.l0 : Nat → ByteArray → Int → Int → Option (Int × Bool)
 | 0, _, _, _ => none
 | k + 1, x0, x4, x5 => if x5 < 8 then (if 0 ≤ x5 then (if x5 < (x0.size : Int) then (dw.l0 k x0 (IntKind.u64.wrap ((IntKind.u64.wrap (x4 * 256)) + (IntKind.u64.wrap (bt x0 x5)))) (wrap64 (x5 + 1))) else (none)) else (none)) else (some (x4, true))
def dw.f (k : Nat) (a0 : ByteArray) : Option (Int × Bool) := if (a0.size : Int) = 8 then (dw.l0 k a0 0 0) else (some (0, false))
theorem dw.gB : ∀ k, (∀ y0 y1 y2, dO (dw.l0 k y0 y1 y2) (dw.l0 (k + 1) y0 y1 y2))
 | 0 => fun _ _ _ r h => by simp [dw.l0] at h
 | k + 1 => by
  have lS := dw.gB k
  ·intro y0 y1 y2
   unfold dw.l0
   repeat' (with_reducible first | exact lS _ _ _ | exact dO.refl _ | exact dO.none _ | refine dO.ite ?_ ?_ | refine dO.bind ?_ (fun _ => ?_))
theorem dw.mono : ∀ a0 k, dO (dw.f k a0) (dw.f (k + 1) a0) := by
 (intro a0 k); (have lS := dw.gB k); (unfold dw.f)
 repeat' (with_reducible first | exact lS _ _ _ | exact dO.refl _ | exact dO.none _ | refine dO.ite ?_ ?_ | refine dO.bind ?_ (fun _ => ?_))
set_option maxHeartbeats 8000000 in
set_option maxRecDepth 100000 in
theorem dw.calls (k : Nat) (a0 : ByteArray) (r1 : Int) (r2 : Bool) (w : World) (h : dw.f k a0 = some (r1, r2)) :
  Calls Try.prog 168 #[.string a0] w fun e w' => e = .returned (.tuple #[.int .u64 r1, .bool r2]) ∧ jg w w' := by
 (have H : (if (a0.size : Int) = 8 then (dw.l0 k a0 0 0) else (some (0, false))) = some (r1, r2) := h); (clear h); (by_cases c2 : (a0.size : Int) = 8)
 ·rw [if_pos c2] at H
  (have zo : ((a0.size : Int) == 8) = true := beq_iff_eq.mpr c2); (have XD : ((a0.size : Int) != 8) = false := bne_eq_false_iff_eq.mpr c2); (clear c2); (have H' := ah.mk H); (clear H); (go_enter Try.func168, Try.ntmps168); (go_wp2); (go_loopg [4, 5] k (fun kq v4 v5 w' => ∃ (Px : Int) (dW : Int), v4 = .int .u64 Px ∧ v5 = .int .i64 dW ∧ ah (dw.l0 kq a0 Px dW = some (r1, r2)) ∧ ah (kq ≤ k) ∧ jg w w'))
  case atStart => exact ⟨(0), (0), (by first | rfl | (simp; done) | (simp [*]; done)), (by first | rfl | (simp; done) | (simp [*]; done)), H', ⟨Nat.le_refl _⟩, aej⟩
  case round =>
   (clear H'); (try clear c1); (try clear c2); (try clear zo); (try clear XD); (try clear p2); (obtain ⟨Px, dW, rfl, rfl, HA, oh, ⟨m1, rfl⟩⟩ := hrel)
   cases gk with
   | zero => exact absurd HA.out (by simp [dw.l0])
   | succ k1 =>
    (have H := HA.out); (clear HA); (simp only [dw.l0] at H); (by_cases c3 : dW < 8)
    ·rw [if_pos c3] at H
     (have zn : decide (dW < 8) = true := decide_eq_true c3); (clear c3); (by_cases c4 : 0 ≤ dW)
     ·rw [if_pos c4] at H
      (have uG : decide (0 ≤ dW) = true := decide_eq_true c4); (clear c4); (by_cases c5 : dW < (a0.size : Int))
      ·rw [if_pos c5] at H
       (have zU : decide (dW < (a0.size : Int)) = true := decide_eq_true c5); (clear c5); (have H' := ah.mk H); (clear H); (have p6 : 0 ≤ (dW : Int) := of_decide_eq_true (by first | (with_reducible assumption) | assumption)); (have q6 : dW < (a0.size : Int) := of_decide_eq_true (by first | (with_reducible assumption) | assumption)); (have hx6 := awN a0 dW); (replace p6 := eq_true p6); (replace q6 := eq_true q6); (go_wp2); (go_roundg k1)
       case measure => have := oh.out; omega
       case rel => exact ⟨(IntKind.u64.wrap ((IntKind.u64.wrap (Px * 256)) + (IntKind.u64.wrap (bt a0 dW)))), (wrap64 (dW + 1)), (by first | rfl | (simp; done) | (simp [*]; done)), (by first | rfl | (simp; done) | (simp [*]; done)), H', ⟨by have := oh.out; omega⟩, aej⟩
      ·rw [if_neg c5] at H
       exact absurd H (by simp)
     ·rw [if_neg c4] at H
      exact absurd H (by simp)
    ·rw [if_neg c3] at H
     (have zn : decide (dW < 8) = false := decide_eq_false c3); (clear c3); (simp only [Option.some.injEq, Prod.mk.injEq] at H); (obtain ⟨rfl, rfl⟩ := H); (go_wp2); (go_ret2); (exact ⟨by first | rfl | (simp; done) | (simp [*]; done), aej⟩)
 ·rw [if_neg c2] at H
  (have zo : ((a0.size : Int) == 8) = false := beq_eq_false_iff_ne.mpr c2); (have XD : ((a0.size : Int) != 8) = true := bne_iff_ne.mpr c2); (simp only [Option.some.injEq, Prod.mk.injEq] at H); (obtain ⟨rfl, rfl⟩ := H); (go_enter Try.func168, Try.ntmps168); (go_wp2); (go_ret2); (exact ⟨by first | rfl | (simp; done) | (simp [*]; done), aej⟩)
theorem aaz {P : Prop} (h : P := by (with_reducible repeat first | exact HB.out | apply mG | apply ni | apply ny) <;> exact HB.out) : P := h
/-! ### catchmentref03_Add: function 143 -/
def iE.f (k : Nat) (a0 : ByteArray) (a1 : Bool) (a2 : Int) : Option (ByteArray) := if a1 = true then ((dw.f k a0).bind fun Qe => (if Qe.2 = true then ((cu.f k (IntKind.u64.wrap (Qe.1 + a2))).bind fun QM => (some QM)) else (some a0))) else ((cu.f k a2).bind fun aaA => (some aaA))
theorem iE.mono : ∀ a0 a1 a2 k, dO (iE.f k a0 a1 a2) (iE.f (k + 1) a0 a1 a2) := by
 (intro a0 a1 a2 k); (unfold iE.f)
 repeat' (with_reducible first | exact cu.mono _ _ | exact dw.mono _ _ | exact dO.refl _ | exact dO.none _ | refine dO.ite ?_ ?_ | refine dO.bind ?_ (fun _ => ?_))
set_option maxHeartbeats 8000000 in
set_option maxRecDepth 100000 in
theorem iE.calls (k : Nat) (a0 : ByteArray) (a1 : Bool) (a2 : Int) (r : ByteArray) (w : World) (h : iE.f k a0 a1 a2 = some r) :
  Calls Try.prog 143 #[.string a0, .bool a1, .int .u64 a2] w fun e w' => e = .returned (.string r) ∧ Below w.heap.size w w' := by
 (have HB := ah.mk (Below.refl w.heap.size w)); (have H : (if a1 = true then ((dw.f k a0).bind fun Qe => (if Qe.2 = true then ((cu.f k (IntKind.u64.wrap (Qe.1 + a2))).bind fun QM => (some QM)) else (some a0))) else ((cu.f k a2).bind fun aaA => (some aaA))) = some r := h); (clear h); (by_cases c4 : a1 = true)
 ·subst c4
  (have H1 : ((dw.f k a0).bind fun Qe => (if Qe.2 = true then ((cu.f k (IntKind.u64.wrap (Qe.1 + a2))).bind fun QM => (some QM)) else (some a0))) = some r := by rw [if_pos rfl] at H; exact H); (clear H); (have H := H1); (clear H1); (replace H := Option.bind_eq_some_iff.mp H); (obtain ⟨⟨ahA, axk⟩, A50, H⟩ := H); (replace H : (if axk = true then ((cu.f k (IntKind.u64.wrap (ahA + a2))).bind fun QM => (some QM)) else (some a0)) = some r := H); (have A5 := ah.mk A50); (clear A50); (by_cases c6 : axk = true)
  ·subst c6
   (have H1 : ((cu.f k (IntKind.u64.wrap (ahA + a2))).bind fun QM => (some QM)) = some r := by rw [if_pos rfl] at H; exact H); (clear H); (have H := H1); (clear H1); (replace H := Option.bind_eq_some_iff.mp H); (obtain ⟨QM, VX, H⟩ := H); (replace H : (some QM) = some r := H); (have A7 := ah.mk VX); (clear VX); (obtain rfl := Option.some.inj H); (go_enter Try.func143, Try.ntmps143)
   (go_wp2_with (first | ((with_reducible refine aH (f := 168) rfl ?_); refine dD (some 15) rfl rfl Try.func168 (by kernel_rfl) rfl #[.string a0] rfl (by (try simp only [List.map_toArray, List.map_cons, List.map_nil]); first | done | rfl) ?_; (with_reducible refine (dw.calls k a0 ahA true _ A5.out).mono ?_); rintro e w' ⟨rfl, ⟨nd, rfl⟩⟩; refine ⟨_, rfl, ?_⟩) | ((with_reducible refine aH (f := 167) rfl ?_); refine dD (some 22) rfl rfl Try.func167 (by kernel_rfl) rfl #[.int .u64 (IntKind.u64.wrap (ahA + a2))] rfl (by (try simp only [List.map_toArray, List.map_cons, List.map_nil]); first | done | rfl) ?_; (with_reducible refine (cu.calls k (IntKind.u64.wrap (ahA + a2)) QM _ A7.out).mono ?_); rintro e w8 ⟨rfl, hb⟩; refine ⟨_, rfl, ?_⟩; replace HB := ah.mk (ak (aaz) hb); (try clear hb); (try clear hb2); (try clear hk); (try clear hi)))); (go_ret)
   exact ⟨by first | rfl | (simp [*, bg, bn] <;> rfl), aaz⟩
  ·replace c6 := Bool.eq_false_iff.mpr c6
   (subst c6); (have H1 : (some a0) = some r := by rw [if_neg (show ¬ (false = true) by decide)] at H; exact H); (clear H); (have H := H1); (clear H1); (obtain rfl := Option.some.inj H); (go_enter Try.func143, Try.ntmps143); (go_wp2_with (first | ((with_reducible refine aH (f := 168) rfl ?_); refine dD (some 15) rfl rfl Try.func168 (by kernel_rfl) rfl #[.string a0] rfl (by (try simp only [List.map_toArray, List.map_cons, List.map_nil]); first | done | rfl) ?_; (with_reducible refine (dw.calls k a0 ahA false _ A5.out).mono ?_); rintro e w' ⟨rfl, ⟨nd, rfl⟩⟩; refine ⟨_, rfl, ?_⟩))); (go_ret); (exact ⟨by first | rfl | (simp [*, bg, bn] <;> rfl), aaz⟩)
 ·replace c4 := Bool.eq_false_iff.mpr c4
  (subst c4); (have H1 : ((cu.f k a2).bind fun aaA => (some aaA)) = some r := by rw [if_neg (show ¬ (false = true) by decide)] at H; exact H); (clear H); (have H := H1); (clear H1); (replace H := Option.bind_eq_some_iff.mp H); (obtain ⟨aaA, TV, H⟩ := H); (replace H : (some aaA) = some r := H); (have A9 := ah.mk TV); (clear TV); (obtain rfl := Option.some.inj H); (go_enter Try.func143, Try.ntmps143); (go_wp2_with (first | ((with_reducible refine aH (f := 167) rfl ?_); refine dD (some 12) rfl rfl Try.func167 (by kernel_rfl) rfl #[.int .u64 a2] rfl (by (try simp only [List.map_toArray, List.map_cons, List.map_nil]); first | done | rfl) ?_; (with_reducible refine (cu.calls k a2 aaA _ A9.out).mono ?_); rintro e w10 ⟨rfl, hb⟩; refine ⟨_, rfl, ?_⟩; replace HB := ah.mk (ak (aaz) hb); (try clear hb); (try clear hb2); (try clear hk); (try clear hi)))); (go_ret)
  exact ⟨by first | rfl | (simp [*, bg, bn] <;> rfl), aaz⟩
end Go.Proofs.Ytnklnjghecmihaa.L2

