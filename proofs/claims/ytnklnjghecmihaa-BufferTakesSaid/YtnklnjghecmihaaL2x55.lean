/- tight -/ -- written by wip/myprint.py
import Derived.Test.YtnklnjghecmihaaL2x0
import Derived.Test.YtnklnjghecmihaaL2x9
import Derived.Test.YtnklnjghecmihaaL2x37
import Derived.Test.YtnklnjghecmihaaL2x39
import Derived.Test.YtnklnjghecmihaaL2x44
import Derived.Test.YtnklnjghecmihaaL2x45
import Derived.Test.YtnklnjghecmihaaL2x51
import Derived.Test.YtnklnjghecmihaaL2x52
import Derived.Test.YtnklnjghecmihaaL2x54
namespace Go.Proofs.Ytnklnjghecmihaa.L2
open Go.RowKit Go.Proofs.YtnklnjghecmihaaW aQ dV fP Mine
attribute [local go_sem] iM iO jk jl gW gX iP iQ iK iL dP dR dQ
set_option linter.unusedVariables false
set_option linter.unusedSimpArgs false
theorem agQ {P : Prop} (h : P := by repeat (first | (with_reducible first | exact HB.out | apply mG | apply ni | apply ny) | exact HB.out)) : P := h
theorem agR {P : Prop} (h : P := by repeat (first | exact (Kd.uN alu.out HB.out) | (with_reducible refine Kd.nD ?_ _) | (with_reducible refine Kd.nG ?_ _) | (with_reducible refine Kd.qp ?_))) : P := h
theorem L9 {P : Prop} (h : P := by (with_reducible repeat (first | refine iR ?_ _ | refine iT ?_ | refine iJ ?_ _)); exact zM.out) : P := h
theorem zf {P : Prop} (h : P := by repeat (first | (with_reducible first | exact HB.out | apply mG | apply ni | apply ny | refine jW ?_ alv.out) | exact HB.out)) : P := h
theorem OT {P : Prop} (h : P := by (with_reducible repeat (first | apply Kd.dZ | apply Kd.d_ | apply Kd.eU)); exact Jc.out) : P := h
theorem OU {P : Prop} (h : P := by (with_reducible repeat (first | apply Kd.dZ | apply Kd.d_ | apply Kd.eU)); exact Jd.out) : P := h
theorem Ve {P : Prop} (h : P := by (with_reducible repeat (first | apply Kd.dZ | apply Kd.d_ | apply Kd.eU)); exact L_.out) : P := h
theorem asV {P : Prop} (h : P := by repeat (first | exact (Kd.dh Jc.out).2.2 | (with_reducible refine Kd.nD ?_ _) | (with_reducible refine Kd.nG ?_ _) | (with_reducible refine Kd.qp ?_))) : P := h
theorem asW {P : Prop} (h : P := by repeat (first | exact (Kd.dh L_.out).2.2 | (with_reducible refine Kd.nD ?_ _) | (with_reducible refine Kd.nG ?_ _) | (with_reducible refine Kd.qp ?_))) : P := h
theorem asX {P : Prop} (h : P := by repeat (first | exact (Kd.uN alu.out (by repeat (first | (with_reducible first | exact HB.out | apply mG | apply ni | apply ny | refine jW ?_ alv.out) | exact HB.out))) | (with_reducible refine Kd.nD ?_ _) | (with_reducible refine Kd.nG ?_ _) | (with_reducible refine Kd.qp ?_))) : P := h
theorem ZN {P : Prop} (h : P := by (with_reducible repeat (first | apply Kd.dZ | apply Kd.d_ | apply Kd.eU)); exact Vf.out) : P := h
theorem alx {P : Prop} (h : P := by repeat (first | exact (Kd.dh Jd.out).2.2 | (with_reducible refine Kd.nD ?_ _) | (with_reducible refine Kd.nG ?_ _) | (with_reducible refine Kd.qp ?_))) : P := h
theorem aly {P : Prop} (h : P := by (with_reducible repeat (first | apply Kd.dZ | apply Kd.d_ | apply Kd.eU)); exact WS.out) : P := h

/-! ### catchmentlaw12_BufferTakes: function 7 -/
def eP.f (k : Nat) (l0 : List (bC)) (bf : ByteArray) (aZ : ByteArray) : Option (Bool) := if 0 ≤ (mn (l0.length : Int) 30) then (if (mn (l0.length : Int) 30) ≤ (l0.length : Int) then ((some (l0.take ((mn (l0.length : Int) 30) : Int).toNat : List (bC))).bind fun lI => ((au.f k lI).bind fun VG => (if VG = true then ((bY.f k lI bf aZ).bind fun qj => ((aX.f k lI bf aZ).bind fun uy => ((dI.f k).bind fun Ib => (if Ib = true then ((aJ.f k qj.1 uy).bind fun Dh => (if Dh = true then ((jA.f k lI bf aZ).bind fun yt => ((aJ.f k yt uy).bind fun xE => (if xE = true then ((aT.f k lI bf aZ).bind fun uz => ((aJ.f k qj.2 uz).bind fun tX => (if tX = true then ((aG.f k qj.1).bind fun ru => (if ru = true then ((aG.f k qj.2).bind fun qx => (some qx)) else (none))) else (none)))) else (none)))) else (none))) else (none))))) else ((dI.f k).bind fun OV => (some OV))))) else (none)) else (none)
theorem eP.mono : ∀ a0 a1 a2 k, dO (eP.f k a0 a1 a2) (eP.f (k + 1) a0 a1 a2) := by
 intro a0 a1 a2 k
 unfold eP.f
 repeat' (with_reducible first | exact jA.mono _ _ _ _ | exact aG.mono _ _ | exact bY.mono _ _ _ _ | exact dI.mono _ | exact aJ.mono _ _ _ | exact aX.mono _ _ _ _ | exact aT.mono _ _ _ _ | exact au.mono _ _ | exact dO.refl _ | exact dO.none _ | refine dO.ite ?_ ?_ | refine dO.bind ?_ (fun _ => ?_))
set_option maxRecDepth 100000 in
set_option maxHeartbeats 4000000 in
theorem oP (A0 : Option Addr) (c0 : Nat) (l0 : List (bC)) (hl : l0.length ≤ c0) (w : World) : Calls Try.prog 24 #[.slice A0 l0.length c0] w fun e w' => e = .returned (.slice A0 (l0.take (mn (l0.length : Int) 30).toNat).length c0) ∧ w' = w := by
 obtain ⟨j, hj⟩ : ∃ j, mn (l0.length : Int) 30 = j := ⟨_, rfl⟩
 have h1 : 0 ≤ j := by rw [← hj]; unfold mn; split <;> omega
 have h2 : j ≤ (l0.length : Int) := by rw [← hj]; unfold mn; split <;> omega
 rw [hj]
 have hj_ : (if 30 < (l0.length : Int) then 30 else (l0.length : Int)) = j := hj
 have hjn : (if 30 < l0.length then (30 : Int) else (l0.length : Int)) = j := by rw [← hj]; unfold mn; (repeat' split) <;> omega
 obtain ⟨i06, aCg, _, aML, _⟩ := info_parts n_
 have aOM := Ti (P := Try.prog) 36 46 .i64 Try.underlying36 aCg A0 l0.length c0 j h1 h2 hl
 clear aCg aML hj
 have hl2 : (l0.take j.toNat).length = j.toNat := by rw [List.length_take]; omega
 go_enter Try.func24, Try.ntmps24
 go_wp2
 all_goals (go_ret; refine ⟨?_, rfl⟩; rw [hl2]; rfl)
set_option maxHeartbeats 8000000 in
set_option maxRecDepth 100000 in
theorem eP.calls (k : Nat) (A0 : Option Addr) (c0 : Nat) (l0 : List (bC)) (bf : ByteArray) (aZ : ByteArray) (r : Bool) (w : World) (hr0 : Kd.C k46 w A0 l0.length l0) (hc0 : l0.length ≤ c0) (h : eP.f k l0 bf aZ = some r) :
  Calls Try.prog 7 #[.slice A0 l0.length c0, .agg #[.string bf, .string aZ]] w fun e w' => e = .returned (.bool r) ∧ Below w.heap.size w w' := by
 have H_ := Try.underlying48
 have HR0 := ah.mk hr0
 have QK := ah.mk hc0
 clear hr0 hc0
 have HB := ah.mk (Below.refl w.heap.size w)
 have H : (if 0 ≤ (mn (l0.length : Int) 30) then (if (mn (l0.length : Int) 30) ≤ (l0.length : Int) then ((some (l0.take ((mn (l0.length : Int) 30) : Int).toNat : List (bC))).bind fun lI => ((au.f k lI).bind fun VG => (if VG = true then ((bY.f k lI bf aZ).bind fun qj => ((aX.f k lI bf aZ).bind fun uy => ((dI.f k).bind fun Ib => (if Ib = true then ((aJ.f k qj.1 uy).bind fun Dh => (if Dh = true then ((jA.f k lI bf aZ).bind fun yt => ((aJ.f k yt uy).bind fun xE => (if xE = true then ((aT.f k lI bf aZ).bind fun uz => ((aJ.f k qj.2 uz).bind fun tX => (if tX = true then ((aG.f k qj.1).bind fun ru => (if ru = true then ((aG.f k qj.2).bind fun qx => (some qx)) else (none))) else (none)))) else (none)))) else (none))) else (none))))) else ((dI.f k).bind fun OV => (some OV))))) else (none)) else (none)) = some r := h
 clear h
 obtain ⟨Vs, VH⟩ : ∃ j_ : Int, (mn (l0.length : Int) 30) = j_ := ⟨_, rfl⟩
 replace H : (if 0 ≤ (Vs) then (if (Vs) ≤ (l0.length : Int) then ((some (l0.take ((Vs) : Int).toNat : List (bC))).bind fun lI => ((au.f k lI).bind fun VG => (if VG = true then ((bY.f k lI bf aZ).bind fun qj => ((aX.f k lI bf aZ).bind fun uy => ((dI.f k).bind fun Ib => (if Ib = true then ((aJ.f k qj.1 uy).bind fun Dh => (if Dh = true then ((jA.f k lI bf aZ).bind fun yt => ((aJ.f k yt uy).bind fun xE => (if xE = true then ((aT.f k lI bf aZ).bind fun uz => ((aJ.f k qj.2 uz).bind fun tX => (if tX = true then ((aG.f k qj.1).bind fun ru => (if ru = true then ((aG.f k qj.2).bind fun qx => (some qx)) else (none))) else (none)))) else (none)))) else (none))) else (none))))) else ((dI.f k).bind fun OV => (some OV))))) else (none)) else (none)) = some r := by first | (rw [VH] at H; exact H) | (simp only [VH] at H ⊢; exact H)
 (try (have aON : Vs ≤ 30 := by (rw [← VH]; unfold mn; (repeat' split) <;> omega)))
 (try (have aOO : Vs ≤ 64 := by omega))
 (try (have aOP : 0 ≤ Vs := by (rw [← VH]; unfold mn; (repeat' split) <;> omega)))
 (try (have aOQ : 0 ≤ Vs := by omega))
 have aOR : (if 30 < (l0.length : Int) then 30 else (l0.length : Int)) = Vs := VH
 (try (have aOS : (if 30 < l0.length then (30 : Int) else (l0.length : Int)) = Vs := by (rw [← VH]; unfold mn; (repeat' split) <;> omega)))
 by_cases c4 : 0 ≤ (Vs)
 ·rw [if_pos c4] at H
  have uG := eq_true c4
  have XI : decide (0 ≤ (Vs)) = true := decide_eq_true c4
  clear c4
  by_cases c5 : (Vs) ≤ (l0.length : Int)
  ·rw [if_pos c5] at H
   have zU := eq_true c5
   have aas : decide ((Vs) ≤ (l0.length : Int)) = true := decide_eq_true c5
   clear c5
   obtain ⟨lI, abQ⟩ : ∃ y_ : List (bC), y_ = (l0.take ((Vs) : Int).toNat) := ⟨_, rfl⟩
   replace H : ((au.f k lI).bind fun VG => (if VG = true then ((bY.f k lI bf aZ).bind fun qj => ((aX.f k lI bf aZ).bind fun uy => ((dI.f k).bind fun Ib => (if Ib = true then ((aJ.f k qj.1 uy).bind fun Dh => (if Dh = true then ((jA.f k lI bf aZ).bind fun yt => ((aJ.f k yt uy).bind fun xE => (if xE = true then ((aT.f k lI bf aZ).bind fun uz => ((aJ.f k qj.2 uz).bind fun tX => (if tX = true then ((aG.f k qj.1).bind fun ru => (if ru = true then ((aG.f k qj.2).bind fun qx => (some qx)) else (none))) else (none)))) else (none)))) else (none))) else (none))))) else ((dI.f k).bind fun OV => (some OV)))) = some r := by first | (rw [abQ]; with_reducible exact H) | (have kJ := (Option.bind_some _ _).symm.trans H; rw [abQ]; with_reducible exact kJ) | (have kJ := (Option.bind_some _ _).symm.trans H; with_reducible exact kJ) | with_reducible exact H | (rw [abQ]; exact H) | exact H
   have WT := ah.mk abQ
   clear abQ
   replace H := Option.bind_eq_some_iff.mp H
   obtain ⟨VG, A60, H⟩ := H
   replace H : (if VG = true then ((bY.f k lI bf aZ).bind fun qj => ((aX.f k lI bf aZ).bind fun uy => ((dI.f k).bind fun Ib => (if Ib = true then ((aJ.f k qj.1 uy).bind fun Dh => (if Dh = true then ((jA.f k lI bf aZ).bind fun yt => ((aJ.f k yt uy).bind fun xE => (if xE = true then ((aT.f k lI bf aZ).bind fun uz => ((aJ.f k qj.2 uz).bind fun tX => (if tX = true then ((aG.f k qj.1).bind fun ru => (if ru = true then ((aG.f k qj.2).bind fun qx => (some qx)) else (none))) else (none)))) else (none)))) else (none))) else (none))))) else ((dI.f k).bind fun OV => (some OV))) = some r := H
   have A6 := ah.mk A60
   clear A60
   by_cases c7 : VG = true
   ·subst c7
    have H1 : ((bY.f k lI bf aZ).bind fun qj => ((aX.f k lI bf aZ).bind fun uy => ((dI.f k).bind fun Ib => (if Ib = true then ((aJ.f k qj.1 uy).bind fun Dh => (if Dh = true then ((jA.f k lI bf aZ).bind fun yt => ((aJ.f k yt uy).bind fun xE => (if xE = true then ((aT.f k lI bf aZ).bind fun uz => ((aJ.f k qj.2 uz).bind fun tX => (if tX = true then ((aG.f k qj.1).bind fun ru => (if ru = true then ((aG.f k qj.2).bind fun qx => (some qx)) else (none))) else (none)))) else (none)))) else (none))) else (none))))) = some r := by rw [if_pos rfl] at H; exact H
    clear H
    have H := H1
    clear H1
    replace H := Option.bind_eq_some_iff.mp H
    obtain ⟨⟨G_, yu⟩, Wp, H⟩ := H
    replace H : ((aX.f k lI bf aZ).bind fun uy => ((dI.f k).bind fun Ib => (if Ib = true then ((aJ.f k G_ uy).bind fun Dh => (if Dh = true then ((jA.f k lI bf aZ).bind fun yt => ((aJ.f k yt uy).bind fun xE => (if xE = true then ((aT.f k lI bf aZ).bind fun uz => ((aJ.f k yu uz).bind fun tX => (if tX = true then ((aG.f k G_).bind fun ru => (if ru = true then ((aG.f k yu).bind fun qx => (some qx)) else (none))) else (none)))) else (none)))) else (none))) else (none)))) = some r := H
    have A8 := ah.mk Wp
    clear Wp
    replace H := Option.bind_eq_some_iff.mp H
    obtain ⟨uy, TV, H⟩ := H
    replace H : ((dI.f k).bind fun Ib => (if Ib = true then ((aJ.f k G_ uy).bind fun Dh => (if Dh = true then ((jA.f k lI bf aZ).bind fun yt => ((aJ.f k yt uy).bind fun xE => (if xE = true then ((aT.f k lI bf aZ).bind fun uz => ((aJ.f k yu uz).bind fun tX => (if tX = true then ((aG.f k G_).bind fun ru => (if ru = true then ((aG.f k yu).bind fun qx => (some qx)) else (none))) else (none)))) else (none)))) else (none))) else (none))) = some r := H
    have A9 := ah.mk TV
    clear TV
    replace H := Option.bind_eq_some_iff.mp H
    obtain ⟨Ib, ai9, H⟩ := H
    replace H : (if Ib = true then ((aJ.f k G_ uy).bind fun Dh => (if Dh = true then ((jA.f k lI bf aZ).bind fun yt => ((aJ.f k yt uy).bind fun xE => (if xE = true then ((aT.f k lI bf aZ).bind fun uz => ((aJ.f k yu uz).bind fun tX => (if tX = true then ((aG.f k G_).bind fun ru => (if ru = true then ((aG.f k yu).bind fun qx => (some qx)) else (none))) else (none)))) else (none)))) else (none))) else (none)) = some r := H
    have A10 := ah.mk ai9
    clear ai9
    by_cases c11 : Ib = true
    ·subst c11
     have H1 : ((aJ.f k G_ uy).bind fun Dh => (if Dh = true then ((jA.f k lI bf aZ).bind fun yt => ((aJ.f k yt uy).bind fun xE => (if xE = true then ((aT.f k lI bf aZ).bind fun uz => ((aJ.f k yu uz).bind fun tX => (if tX = true then ((aG.f k G_).bind fun ru => (if ru = true then ((aG.f k yu).bind fun qx => (some qx)) else (none))) else (none)))) else (none)))) else (none))) = some r := by rw [if_pos rfl] at H; exact H
     clear H
     have H := H1
     clear H1
     replace H := Option.bind_eq_some_iff.mp H
     obtain ⟨Dh, NZ, H⟩ := H
     replace H : (if Dh = true then ((jA.f k lI bf aZ).bind fun yt => ((aJ.f k yt uy).bind fun xE => (if xE = true then ((aT.f k lI bf aZ).bind fun uz => ((aJ.f k yu uz).bind fun tX => (if tX = true then ((aG.f k G_).bind fun ru => (if ru = true then ((aG.f k yu).bind fun qx => (some qx)) else (none))) else (none)))) else (none)))) else (none)) = some r := H
     have A12 := ah.mk NZ
     clear NZ
     by_cases c13 : Dh = true
     ·subst c13
      have H1 : ((jA.f k lI bf aZ).bind fun yt => ((aJ.f k yt uy).bind fun xE => (if xE = true then ((aT.f k lI bf aZ).bind fun uz => ((aJ.f k yu uz).bind fun tX => (if tX = true then ((aG.f k G_).bind fun ru => (if ru = true then ((aG.f k yu).bind fun qx => (some qx)) else (none))) else (none)))) else (none)))) = some r := by rw [if_pos rfl] at H; exact H
      clear H
      have H := H1
      clear H1
      replace H := Option.bind_eq_some_iff.mp H
      obtain ⟨yt, aaL, H⟩ := H
      replace H : ((aJ.f k yt uy).bind fun xE => (if xE = true then ((aT.f k lI bf aZ).bind fun uz => ((aJ.f k yu uz).bind fun tX => (if tX = true then ((aG.f k G_).bind fun ru => (if ru = true then ((aG.f k yu).bind fun qx => (some qx)) else (none))) else (none)))) else (none))) = some r := H
      have A14 := ah.mk aaL
      clear aaL
      replace H := Option.bind_eq_some_iff.mp H
      obtain ⟨xE, alz, H⟩ := H
      replace H : (if xE = true then ((aT.f k lI bf aZ).bind fun uz => ((aJ.f k yu uz).bind fun tX => (if tX = true then ((aG.f k G_).bind fun ru => (if ru = true then ((aG.f k yu).bind fun qx => (some qx)) else (none))) else (none)))) else (none)) = some r := H
      have A15 := ah.mk alz
      clear alz
      by_cases c16 : xE = true
      ·subst c16
       have H1 : ((aT.f k lI bf aZ).bind fun uz => ((aJ.f k yu uz).bind fun tX => (if tX = true then ((aG.f k G_).bind fun ru => (if ru = true then ((aG.f k yu).bind fun qx => (some qx)) else (none))) else (none)))) = some r := by rw [if_pos rfl] at H; exact H
       clear H
       have H := H1
       clear H1
       replace H := Option.bind_eq_some_iff.mp H
       obtain ⟨uz, aCh, H⟩ := H
       replace H : ((aJ.f k yu uz).bind fun tX => (if tX = true then ((aG.f k G_).bind fun ru => (if ru = true then ((aG.f k yu).bind fun qx => (some qx)) else (none))) else (none))) = some r := H
       have A17 := ah.mk aCh
       clear aCh
       replace H := Option.bind_eq_some_iff.mp H
       obtain ⟨tX, aCi, H⟩ := H
       replace H : (if tX = true then ((aG.f k G_).bind fun ru => (if ru = true then ((aG.f k yu).bind fun qx => (some qx)) else (none))) else (none)) = some r := H
       have A18 := ah.mk aCi
       clear aCi
       by_cases c19 : tX = true
       ·subst c19
        have H1 : ((aG.f k G_).bind fun ru => (if ru = true then ((aG.f k yu).bind fun qx => (some qx)) else (none))) = some r := by rw [if_pos rfl] at H; exact H
        clear H
        have H := H1
        clear H1
        replace H := Option.bind_eq_some_iff.mp H
        obtain ⟨ru, aCj, H⟩ := H
        replace H : (if ru = true then ((aG.f k yu).bind fun qx => (some qx)) else (none)) = some r := H
        have A20 := ah.mk aCj
        clear aCj
        by_cases c21 : ru = true
        ·subst c21
         have H1 : ((aG.f k yu).bind fun qx => (some qx)) = some r := by rw [if_pos rfl] at H; exact H
         clear H
         have H := H1
         clear H1
         replace H := Option.bind_eq_some_iff.mp H
         obtain ⟨qx, aCk, H⟩ := H
         replace H : (some qx) = some r := H
         have A22 := ah.mk aCk
         clear aCk
         obtain rfl := Option.some.inj H
         have awf := ah.mk (show ∀ W : World, Calls Try.prog 24 #[.slice A0 l0.length c0] W (fun e w' => e = .returned (.slice A0 lI.length c0) ∧ W = w') from fun W => by have h_ := oP A0 c0 l0 QK.out W; rw [VH, ← WT.out] at h_; exact h_.mono fun _ _ h => ⟨h.1, h.2.symm⟩)
         go_enter Try.func7, Try.ntmps7
         go_wp2_with (first | (go_at_call 24; refine (awf.out _).mono ?_; rintro e w_ ⟨rfl, rfl⟩) | ((with_reducible refine bM (N := 3) rfl ?_); refine bU ?hg (N := 3) ?hd (cs := #[.string bf, .string aZ]) (t := 48) ?hr ?_; (case hd => rfl); (case hg => rfl); (case hr => first | (go_simp; done) | (go_simp; rfl)); intro Je hg w23 hbox hb; have zM := ah.mk (hbox); have alA := ah.mk (hs_ hg (agQ)); replace HB := ah.mk (ak (agQ) hb); have alv := alA; clear hb hbox hg; have q24 : ((Vs) : Int) ≤ ((l0.length : Int) : Int) := of_decide_eq_true (by first | (with_reducible assumption) | assumption); obtain ⟨aQN, asY, _, aCl, _⟩ := info_parts n_; have agS : l0.length ≤ c0 := QK.out; have aCm : Kd.C k46 _ A0 l0.length l0 := HR0.out; have awg := Ti (P := Try.prog) 36 46 .i64 Try.underlying36 asY A0 l0.length c0 (Vs) (of_decide_eq_true (by first | (with_reducible assumption) | assumption)) q24 agS; have awh := Kd.Tj (m := ((Vs) : Int).toNat) aCm (by omega); have hy24 : lI.length = ((Vs) : Int).toNat := (by rw [WT.out, List.length_take]; omega); rw [← WT.out] at awh; rw [← hy24] at awg; have alu := ah.mk awh; have Vg := ah.mk (show lI.length ≤ c0 from by omega); clear awh aCm agS asY aCl; have aQO := ah.mk hy24; clear hy24; replace q24 := eq_true q24) | ((with_reducible refine aH (f := 25) rfl ?_); refine dD (some 11) rfl rfl Try.func25 (by kernel_rfl) rfl #[.slice A0 lI.length c0] rfl (by (try simp only [List.map_toArray, List.map_cons, List.map_nil]); first | done | rfl | (simp only [List.length_drop, List.length_take]; rfl)) ?_; (with_reducible refine (au.calls k _ _ lI true _ ?fM ?fO A6.out).mono ?_); (case fM => exact agR); (case fO => exact Vg.out); rintro e w25 ⟨rfl, hb⟩; refine ⟨_, rfl, ?_⟩; replace zM := ah.mk (aA (g := Je) (o := .cells #[.string bf, .string aZ] 48 (0, 0)) (L9) hb); replace HB := ah.mk (ak (zf) hb); (try clear hb); (try clear hb2); (try clear hk); (try clear hi); obtain ⟨aeB, aeC, aeD, aeE⟩ := oQ zM) | ((with_reducible refine aH (f := 31) rfl ?_); refine dD (some 17) rfl rfl Try.func31 (by kernel_rfl) rfl #[.slice A0 lI.length c0, .agg #[.string bf, .string aZ]] rfl (by (try simp only [List.map_toArray, List.map_cons, List.map_nil]); first | done | rfl | (simp only [List.length_drop, List.length_take]; rfl)) ?_; (with_reducible refine (bY.calls k _ _ lI bf aZ G_ yu _ ?fM ?fO A8.out).mono ?_); (case fM => exact agR); (case fO => exact Vg.out); rintro e w27 ⟨aQP, aQQ, rfl, ho0, ho1, hb⟩; refine ⟨_, rfl, ?_⟩; have Jc := ah.mk (Kd.gy ho0 (cZ (zf))); have Jd := ah.mk (Kd.gy ho1 (cZ (zf))); replace zM := ah.mk (aA (g := Je) (o := .cells #[.string bf, .string aZ] 48 (0, 0)) (L9) hb); replace HB := ah.mk (ak (zf) hb); (try clear hb); (try clear hb2); (try clear hk); (try clear hi); (try clear ho0); (try clear ho1); obtain ⟨apx, apy, apz, apA⟩ := oQ zM) | ((with_reducible refine aH (f := 32) rfl ?_); refine dD (some 22) rfl rfl Try.func32 (by kernel_rfl) rfl #[.slice A0 lI.length c0, .agg #[.string bf, .string aZ]] rfl (by (try simp only [List.map_toArray, List.map_cons, List.map_nil]); first | done | rfl | (simp only [List.length_drop, List.length_take]; rfl)) ?_; (with_reducible refine (aX.calls k _ _ lI bf aZ uy _ ?fM ?fO A9.out).mono ?_); (case fM => exact agR); (case fO => exact Vg.out); rintro e N8 ⟨aQR, rfl, ho0, hb⟩; refine ⟨_, rfl, ?_⟩; have L_ := ah.mk (Kd.gy (Kd.fQ (Kd.fQ ho0 (Kd.jC (OT))) (Kd.jC (OU))) (cZ (zf))); replace Jc := ah.mk (Kd.iD (OT) (Kd.fH ho0) hb); replace Jd := ah.mk (Kd.iD (OU) (Kd.fH ho0) hb); replace zM := ah.mk (aA (g := Je) (o := .cells #[.string bf, .string aZ] 48 (0, 0)) (L9) hb); replace HB := ah.mk (ak (zf) hb); (try clear hb); (try clear hb2); (try clear hk); (try clear hi); (try clear ho0)) | ((with_reducible refine aH (f := 26) rfl ?_); refine dD (some 23) rfl rfl Try.func26 (by kernel_rfl) rfl #[] rfl (by (try simp only [List.map_toArray, List.map_cons, List.map_nil]); first | done | rfl | (simp only [List.length_drop, List.length_take]; rfl)) ?_; (with_reducible refine (dI.calls k  true _ A10.out).mono ?_); rintro e w30 ⟨rfl, hb⟩; refine ⟨_, rfl, ?_⟩; replace Jc := ah.mk (Kd.dG (OT) hb); replace Jd := ah.mk (Kd.dG (OU) hb); replace L_ := ah.mk (Kd.dG (Ve) hb); replace zM := ah.mk (aA (g := Je) (o := .cells #[.string bf, .string aZ] 48 (0, 0)) (L9) hb); replace HB := ah.mk (ak (zf) hb); (try clear hb); (try clear hb2); (try clear hk); (try clear hi); obtain ⟨aQS, aQT, aMM⟩ := Kd.fJ Jc.out; subst aMM; obtain ⟨avz, avA, avC⟩ := Kd.fJ L_.out; subst avC) | (go_at_call 28; (with_reducible refine (aJ.calls k _ _ G_ _ _ uy true _ ?fM ?fO ?Vb ?Vd A12.out).mono ?_); (case fM => exact asV); (case fO => exact (Kd.dh Jc.out).2.1); (case Vb => exact asW); (case Vd => exact (Kd.dh L_.out).2.1); rintro e w' ⟨rfl, ⟨nd, rfl⟩⟩; obtain ⟨apX, apY, apZ, ap0⟩ := oQ zM) | (go_at_call 33; (with_reducible refine (jA.calls k _ _ lI bf aZ yt _ ?fM ?fO A14.out).mono ?_); (case fM => exact asX); (case fO => exact Vg.out); rintro e w34 ⟨aQU, rfl, ho0, hb⟩; have Vf := ah.mk (Kd.gy (Kd.fQ (Kd.fQ (Kd.fQ ho0 (Kd.jC (OT))) (Kd.jC (OU))) (Kd.jC (Ve))) (cZ (zf))); replace Jc := ah.mk (Kd.iD (OT) (Kd.fH ho0) hb); replace Jd := ah.mk (Kd.iD (OU) (Kd.fH ho0) hb); replace L_ := ah.mk (Kd.iD (Ve) (Kd.fH ho0) hb); replace zM := ah.mk (aA (g := Je) (o := .cells #[.string bf, .string aZ] 48 (0, 0)) (L9) hb); replace HB := ah.mk (ak (zf) hb); (try clear hb); (try clear hb2); (try clear hk); (try clear hi); (try clear ho0); obtain ⟨ahS, ahT, akQ⟩ := Kd.fJ Vf.out; subst akQ) | (go_at_call 28; (with_reducible refine (aJ.calls k _ _ yt _ _ uy true _ ?fM ?fO ?Vb ?Vd A15.out).mono ?_); (case fM => repeat (first | exact (Kd.dh Vf.out).2.2 | (with_reducible refine Kd.nD ?_ _) | (with_reducible refine Kd.nG ?_ _) | (with_reducible refine Kd.qp ?_))); (case fO => exact (Kd.dh Vf.out).2.1); (case Vb => exact asW); (case Vd => exact (Kd.dh L_.out).2.1); rintro e w' ⟨rfl, ⟨nd, rfl⟩⟩; obtain ⟨Y0, Y1, Y2, Y3⟩ := oQ zM) | (go_at_call 34; (with_reducible refine (aT.calls k _ _ lI bf aZ uz _ ?fM ?fO A17.out).mono ?_); (case fM => exact asX); (case fO => exact Vg.out); rintro e w37 ⟨aQV, rfl, ho0, hb⟩; have WS := ah.mk (Kd.gy (Kd.fQ (Kd.fQ (Kd.fQ (Kd.fQ ho0 (Kd.jC (OT))) (Kd.jC (OU))) (Kd.jC (Ve))) (Kd.jC (ZN))) (cZ (zf))); replace Jc := ah.mk (Kd.iD (OT) (Kd.fH ho0) hb); replace Jd := ah.mk (Kd.iD (OU) (Kd.fH ho0) hb); replace L_ := ah.mk (Kd.iD (Ve) (Kd.fH ho0) hb); replace Vf := ah.mk (Kd.iD (ZN) (Kd.fH ho0) hb); replace zM := ah.mk (aA (g := Je) (o := .cells #[.string bf, .string aZ] 48 (0, 0)) (L9) hb); replace HB := ah.mk (ak (zf) hb); (try clear hb); (try clear hb2); (try clear hk); (try clear hi); (try clear ho0); obtain ⟨aKV, aKW, avD⟩ := Kd.fJ Jd.out; subst avD; obtain ⟨aKX, aKY, avE⟩ := Kd.fJ WS.out; subst avE) | (go_at_call 28; (with_reducible refine (aJ.calls k _ _ yu _ _ uz true _ ?fM ?fO ?Vb ?Vd A18.out).mono ?_); (case fM => exact alx); (case fO => exact (Kd.dh Jd.out).2.1); (case Vb => repeat (first | exact (Kd.dh WS.out).2.2 | (with_reducible refine Kd.nD ?_ _) | (with_reducible refine Kd.nG ?_ _) | (with_reducible refine Kd.qp ?_))); (case Vd => exact (Kd.dh WS.out).2.1); rintro e w' ⟨rfl, ⟨nd, rfl⟩⟩) | (go_at_call 35; (with_reducible refine (aG.calls k _ _ G_ true _ ?fM ?fO A20.out).mono ?_); (case fM => exact asV); (case fO => exact (Kd.dh Jc.out).2.1); rintro e w40 ⟨rfl, hb⟩; replace Jc := ah.mk (Kd.dG (OT) hb); replace Jd := ah.mk (Kd.dG (OU) hb); replace L_ := ah.mk (Kd.dG (Ve) hb); replace Vf := ah.mk (Kd.dG (ZN) hb); replace WS := ah.mk (Kd.dG (aly) hb); replace zM := ah.mk (aA (g := Je) (o := .cells #[.string bf, .string aZ] 48 (0, 0)) (L9) hb); replace HB := ah.mk (ak (zf) hb); (try clear hb); (try clear hb2); (try clear hk); (try clear hi)) | (go_at_call 35; (with_reducible refine (aG.calls k _ _ yu qx _ ?fM ?fO A22.out).mono ?_); (case fM => exact alx); (case fO => exact (Kd.dh Jd.out).2.1); rintro e w41 ⟨rfl, hb⟩; replace Jc := ah.mk (Kd.dG (OT) hb); replace Jd := ah.mk (Kd.dG (OU) hb); replace L_ := ah.mk (Kd.dG (Ve) hb); replace Vf := ah.mk (Kd.dG (ZN) hb); replace WS := ah.mk (Kd.dG (aly) hb); replace zM := ah.mk (aA (g := Je) (o := .cells #[.string bf, .string aZ] 48 (0, 0)) (L9) hb); replace HB := ah.mk (ak (zf) hb); (try clear hb); (try clear hb2); (try clear hk); (try clear hi)))
         go_ret
         exact ⟨by first | rfl | (simp [bg, bn] <;> rfl) | (simp only [← VH]; first | rfl | (simp [bg, bn] <;> rfl)) | (simp [*, bg, bn] <;> rfl), zf⟩
        ·replace c21 := Bool.eq_false_iff.mpr c21
         subst c21
         have H1 : (none) = some r := by rw [if_neg (show ¬ (false = true) by decide)] at H; exact H
         clear H
         have H := H1
         clear H1
         exact absurd H (by simp)
       ·replace c19 := Bool.eq_false_iff.mpr c19
        subst c19
        have H1 : (none) = some r := by rw [if_neg (show ¬ (false = true) by decide)] at H; exact H
        clear H
        have H := H1
        clear H1
        exact absurd H (by simp)
      ·replace c16 := Bool.eq_false_iff.mpr c16
       subst c16
       have H1 : (none) = some r := by rw [if_neg (show ¬ (false = true) by decide)] at H; exact H
       clear H
       have H := H1
       clear H1
       exact absurd H (by simp)
     ·replace c13 := Bool.eq_false_iff.mpr c13
      subst c13
      have H1 : (none) = some r := by rw [if_neg (show ¬ (false = true) by decide)] at H; exact H
      clear H
      have H := H1
      clear H1
      exact absurd H (by simp)
    ·replace c11 := Bool.eq_false_iff.mpr c11
     subst c11
     have H1 : (none) = some r := by rw [if_neg (show ¬ (false = true) by decide)] at H; exact H
     clear H
     have H := H1
     clear H1
     exact absurd H (by simp)
   ·replace c7 := Bool.eq_false_iff.mpr c7
    subst c7
    have H1 : ((dI.f k).bind fun OV => (some OV)) = some r := by rw [if_neg (show ¬ (false = true) by decide)] at H; exact H
    clear H
    have H := H1
    clear H1
    replace H := Option.bind_eq_some_iff.mp H
    obtain ⟨OV, aCn, H⟩ := H
    replace H : (some OV) = some r := H
    have A42 := ah.mk aCn
    clear aCn
    obtain rfl := Option.some.inj H
    have awf := ah.mk (show ∀ W : World, Calls Try.prog 24 #[.slice A0 l0.length c0] W (fun e w' => e = .returned (.slice A0 lI.length c0) ∧ W = w') from fun W => by have h_ := oP A0 c0 l0 QK.out W; rw [VH, ← WT.out] at h_; exact h_.mono fun _ _ h => ⟨h.1, h.2.symm⟩)
    go_enter Try.func7, Try.ntmps7
    go_wp2_with (first | (go_at_call 24; refine (awf.out _).mono ?_; rintro e w_ ⟨rfl, rfl⟩) | ((with_reducible refine bM (N := 3) rfl ?_); refine bU ?hg (N := 3) ?hd (cs := #[.string bf, .string aZ]) (t := 48) ?hr ?_; (case hd => rfl); (case hg => rfl); (case hr => first | (go_simp; done) | (go_simp; rfl)); intro Je hg w43 hbox hb; have zM := ah.mk (hbox); have alA := ah.mk (hs_ hg (agQ)); replace HB := ah.mk (ak (agQ) hb); have alv := alA; clear hb hbox hg; have q44 : ((Vs) : Int) ≤ ((l0.length : Int) : Int) := of_decide_eq_true (by first | (with_reducible assumption) | assumption); obtain ⟨aQW, asZ, _, aCo, _⟩ := info_parts n_; have agT : l0.length ≤ c0 := QK.out; have aCp : Kd.C k46 _ A0 l0.length l0 := HR0.out; have awi := Ti (P := Try.prog) 36 46 .i64 Try.underlying36 asZ A0 l0.length c0 (Vs) (of_decide_eq_true (by first | (with_reducible assumption) | assumption)) q44 agT; have awj := Kd.Tj (m := ((Vs) : Int).toNat) aCp (by omega); have awk : lI.length = ((Vs) : Int).toNat := (by rw [WT.out, List.length_take]; omega); rw [← WT.out] at awj; rw [← awk] at awi; have alu := ah.mk awj; have Vg := ah.mk (show lI.length ≤ c0 from by omega); clear awj aCp agT asZ aCo; have aQX := ah.mk awk; clear awk; replace q44 := eq_true q44) | ((with_reducible refine aH (f := 25) rfl ?_); refine dD (some 11) rfl rfl Try.func25 (by kernel_rfl) rfl #[.slice A0 lI.length c0] rfl (by (try simp only [List.map_toArray, List.map_cons, List.map_nil]); first | done | rfl | (simp only [List.length_drop, List.length_take]; rfl)) ?_; (with_reducible refine (au.calls k _ _ lI false _ ?fM ?fO A6.out).mono ?_); (case fM => exact agR); (case fO => exact Vg.out); rintro e w45 ⟨rfl, hb⟩; refine ⟨_, rfl, ?_⟩; replace zM := ah.mk (aA (g := Je) (o := .cells #[.string bf, .string aZ] 48 (0, 0)) (L9) hb); replace HB := ah.mk (ak (zf) hb); (try clear hb); (try clear hb2); (try clear hk); (try clear hi)) | ((with_reducible refine aH (f := 26) rfl ?_); refine dD (some 13) rfl rfl Try.func26 (by kernel_rfl) rfl #[] rfl (by (try simp only [List.map_toArray, List.map_cons, List.map_nil]); first | done | rfl | (simp only [List.length_drop, List.length_take]; rfl)) ?_; (with_reducible refine (dI.calls k  OV _ A42.out).mono ?_); rintro e w46 ⟨rfl, hb⟩; refine ⟨_, rfl, ?_⟩; replace zM := ah.mk (aA (g := Je) (o := .cells #[.string bf, .string aZ] 48 (0, 0)) (L9) hb); replace HB := ah.mk (ak (zf) hb); (try clear hb); (try clear hb2); (try clear hk); (try clear hi)))
    go_ret
    exact ⟨by first | rfl | (simp [bg, bn] <;> rfl) | (simp only [← VH]; first | rfl | (simp [bg, bn] <;> rfl)) | (simp [*, bg, bn] <;> rfl), zf⟩
  ·rw [if_neg c5] at H
   exact absurd H (by simp)
 ·rw [if_neg c4] at H
  exact absurd H (by simp)
def ok48 (y : S48) : Prop := (fun s : ByteArray => s.size ≤ 140737488351232) y.f0 ∧ (fun s : ByteArray => s.size ≤ 140737488351232) y.f1
def ok46 (y : bC) : Prop := (fun x : Int => (Lit.int .u8 x).wf = true) y.f0 ∧ (fun x : Int => (Lit.int .i64 x).wf = true) y.f1 ∧ (fun s : ByteArray => s.size ≤ 140737488351232) y.f2 ∧ (fun s : ByteArray => s.size ≤ 140737488351232) y.f3 ∧ (fun s : ByteArray => s.size ≤ 140737488351232) y.f4 ∧ (fun x : Int => (Lit.int .u64 x).wf = true) y.f5
/-- THE ONE PURE STATEMENT of catchmentlaw12_BufferTakes. -/
def eP.Pure : Prop := ∀ (l0 : List (bC)) (y1 : S48), (fun xs : List (bC) => xs.length ≤ maxLen ∧ xs.length * 72 ≤ 140737488351232 ∧ ∀ x ∈ xs, ok46 x) l0 → ok48 y1 → ∃ k, eP.f k l0 y1.f0 y1.f1 = some true
theorem eP.walk (P : eP.Pure) (A0 : Option Addr) (c0 : Nat) (l0 : List (bC)) (y1 : S48) (w : World) (hr0 : Kd.C k46 w A0 l0.length l0) (hc0 : l0.length ≤ c0) (awl : (fun xs : List (bC) => xs.length ≤ maxLen ∧ xs.length * 72 ≤ 140737488351232 ∧ ∀ x ∈ xs, ok46 x) l0) (awm : ok48 y1) :
  Calls Try.prog 7 #[.slice A0 l0.length c0, .agg #[.string y1.f0, .string y1.f1]] w fun e w' => e = .returned (.bool true) ∧ Below w.heap.size w w' := by
 obtain ⟨k, h⟩ := P l0 y1 awl awm
 refine (eP.calls k A0 c0 l0 y1.f0 y1.f1 true w hr0 hc0 h).mono ?_
 rintro e w' ⟨rfl, hd⟩
 exact ⟨rfl, hd⟩

end Go.Proofs.Ytnklnjghecmihaa.L2
