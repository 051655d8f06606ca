/- tight -/ -- written by wip/myprint.py
import Derived.Test.YtnklnjghecmihaaProg
import Derived.Test.YtnklnjghecmihaaL2V0
import Derived.Below
import Derived.Deep.Draws
import Derived.Deep.AppendLies
import Derived.Maps.AppendAt
import Derived.OwnWalk
import Derived.Laws.BytesArg
import Derived.Laws.MakeOwn
import Derived.Laws.OwnMore
import Derived.Deep.OwnRows
import Derived.Tactics
import Derived.Lib.ConvBytes
import Derived.Laws.Slices
import Derived.WalkKit
import Derived.KernelRfl
import Derived.RowKit3
import Derived.Deep.LoopGhost
import Derived.Deep.QuietTactic
import Derived.BigQuiet
import Derived.WideLaws
import Derived.Deep.DeepCutAuto
import Derived.Deep.CutBlock
import Derived.Deep.RegionHeld3
import Derived.Laws.Rows
import Derived.Lib.AppendStr
import Derived.ArgAppend
import Derived.Laws.IdiomCopy
import Derived.OrdersHeld
import Derived.Laws.BitsLemmas
import Derived.RowKit
import Derived.Lib.Bytealg
import Derived.Lib.Strings
import Derived.Lib.Walk
import Derived.Deep.RegionLaw
import Derived.Deep.Light
import Derived.Shelf.Strings.Builder1
namespace Go.Proofs.Ytnklnjghecmihaa.L2
open Go.RowKit Go.Proofs.YtnklnjghecmihaaW aQ dV fP Mine
attribute [local go_sem] iM iO jk jl gW gX iP iQ iK iL dP dR dQ
set_option linter.unusedVariables false
set_option linter.unusedSimpArgs false
theorem awU {P : Prop} (h : P := by have hq := hc 0 _ rfl; rwa [Nat.mul_one, Nat.add_zero] at hq) : P := h



def awV : Option Int → Value
 | none => .nilIface
 | some c => .iface 0 (.int .i64 c)
theorem bg : awV none = .nilIface := rfl
theorem bn (c : Int) : awV (some c) = .iface 0 (.int .i64 c) := rfl

theorem info3 : (Try.prog.info? 3).map (fun i => (i.zero, i.size, i.bytes)) = some (some (.int .i64 0), 1, 8) := by kernel_rfl
theorem info5 : (Try.prog.info? 5).map (fun i => (i.zero, i.size, i.bytes)) = some (some (.int .u8 0), 1, 1) := by kernel_rfl
theorem aJJ : (Try.prog.info? 36).map (fun i => (i.zero, i.size, i.bytes)) = some (some (.slice none 0 0), 1, 24) := by kernel_rfl
theorem n_ : (Try.prog.info? 46).map (fun i => (i.zero, i.size, i.bytes)) = some (some (.agg #[(.int .u8 0), (.int .i64 0), (.string ⟨#[]⟩), (.string ⟨#[]⟩), (.string ⟨#[]⟩), (.int .u64 0)]), 6, 72) := by kernel_rfl
-- the values' own types
/-! #### struct type 46 -/
structure bC where
 f0 : Int
 f1 : Int
 f2 : ByteArray
 f3 : ByteArray
 f4 : ByteArray
 f5 : Int
def z46 : bC := ⟨(0 : Int), (0 : Int), (⟨#[]⟩ : ByteArray), (⟨#[]⟩ : ByteArray), (⟨#[]⟩ : ByteArray), (0 : Int)⟩
def k46 : Kd bC := Kd.iso (Kd.pair (Kd.int .u8) (Kd.pair (Kd.int .i64) (Kd.pair Kd.string (Kd.pair Kd.string (Kd.pair Kd.string (Kd.int .u64)))))) (fun x : bC => (x.f0, x.f1, x.f2, x.f3, x.f4, x.f5))
theorem awW : Kd.Heap k46 := Kd.aaj _ (Kd.Cb (Kd.TA .u8) (Kd.Cb (Kd.TA .i64) (Kd.Cb Kd.yQ (Kd.Cb Kd.yQ (Kd.Cb Kd.yQ (Kd.TA .u64))))))
theorem aiF {w : World} {x : bC} {cs : List Value} (h : k46.K w x cs) : cs = [.int .u8 x.f0, .int .i64 x.f1, .string x.f2, .string x.f3, .string x.f4, .int .u64 x.f5] := by
 obtain ⟨_, _, rfl, rfl, ⟨_, _, rfl, rfl, ⟨_, _, rfl, rfl, ⟨_, _, rfl, rfl, ⟨_, _, rfl, rfl, rfl⟩⟩⟩⟩⟩ := h
 exact rfl
theorem l7 {w : World} {base : Nat} {ok : Nat → Prop} {x : bC} {cs : List Value} (h : k46.M w base ok x cs) : cs = [.int .u8 x.f0, .int .i64 x.f1, .string x.f2, .string x.f3, .string x.f4, .int .u64 x.f5] := by
 obtain ⟨_, _, rfl, rfl, ⟨_, _, rfl, rfl, ⟨_, _, rfl, rfl, ⟨_, _, rfl, rfl, ⟨_, _, rfl, rfl, rfl⟩⟩⟩⟩⟩ := h
 exact rfl
theorem atr (w : World) (x : bC)  : k46.K w x [.int .u8 x.f0, .int .i64 x.f1, .string x.f2, .string x.f3, .string x.f4, .int .u64 x.f5] := ⟨[.int .u8 x.f0], [.int .i64 x.f1, .string x.f2, .string x.f3, .string x.f4, .int .u64 x.f5], rfl, rfl, ⟨[.int .i64 x.f1], [.string x.f2, .string x.f3, .string x.f4, .int .u64 x.f5], rfl, rfl, ⟨[.string x.f2], [.string x.f3, .string x.f4, .int .u64 x.f5], rfl, rfl, ⟨[.string x.f3], [.string x.f4, .int .u64 x.f5], rfl, rfl, ⟨[.string x.f4], [.int .u64 x.f5], rfl, rfl, rfl⟩⟩⟩⟩⟩
theorem jv (w : World) (base : Nat) (ok : Nat → Prop) (x : bC)  : k46.M w base ok x [.int .u8 x.f0, .int .i64 x.f1, .string x.f2, .string x.f3, .string x.f4, .int .u64 x.f5] := ⟨[.int .u8 x.f0], [.int .i64 x.f1, .string x.f2, .string x.f3, .string x.f4, .int .u64 x.f5], rfl, rfl, ⟨[.int .i64 x.f1], [.string x.f2, .string x.f3, .string x.f4, .int .u64 x.f5], rfl, rfl, ⟨[.string x.f2], [.string x.f3, .string x.f4, .int .u64 x.f5], rfl, rfl, ⟨[.string x.f3], [.string x.f4, .int .u64 x.f5], rfl, rfl, ⟨[.string x.f4], [.int .u64 x.f5], rfl, rfl, rfl⟩⟩⟩⟩⟩
theorem aCD (W : World) (ok : Nat → Prop) (x : bC) : Kd.FK k46 W ok x [.int .u8 x.f0, .int .i64 x.f1, .string x.f2, .string x.f3, .string x.f4, .int .u64 x.f5] := fun W2 _ => atr W2 x
def aj (xs : List bC) (i : Int) : bC := xs.getD i.toNat z46
theorem gJ {w : World} {A : Option Addr} {n : Nat} {xs : List bC} (h : Kd.C k46 w A n xs) (i : Int) (h0 : 0 ≤ i) (h1 : i < n) : ∃ ad , A = some ad ∧ w.cell? (ad.add (i.toNat * 6)) = some (.int .u8 (aj xs i).f0) ∧ w.cell? ⟨(ad.add (i.toNat * 6)).block, (ad.add (i.toNat * 6)).off + 1, none⟩ = some (.int .i64 (aj xs i).f1) ∧ w.cell? ⟨(ad.add (i.toNat * 6)).block, (ad.add (i.toNat * 6)).off + 2, none⟩ = some (.string (aj xs i).f2) ∧ w.cell? ⟨(ad.add (i.toNat * 6)).block, (ad.add (i.toNat * 6)).off + 3, none⟩ = some (.string (aj xs i).f3) ∧ w.cell? ⟨(ad.add (i.toNat * 6)).block, (ad.add (i.toNat * 6)).off + 4, none⟩ = some (.string (aj xs i).f4) ∧ w.cell? ⟨(ad.add (i.toNat * 6)).block, (ad.add (i.toNat * 6)).off + 5, none⟩ = some (.int .u64 (aj xs i).f5) := by
 obtain ⟨ad, c, e, _, hK, hc0⟩ := Kd.adF h z46 i h0 h1
 have hc : ∀ j u, c[j]? = some u → w.cell? (ad.add (i.toNat * 6 + j)) = some u := hc0
 obtain rfl := aiF hK
 exact ⟨ad, e, hc 0 _ rfl, by rw [← B_ _ _ 1 (by omega)]; exact hc 1 _ rfl, by rw [← B_ _ _ 2 (by omega)]; exact hc 2 _ rfl, by rw [← B_ _ _ 3 (by omega)]; exact hc 3 _ rfl, by rw [← B_ _ _ 4 (by omega)]; exact hc 4 _ rfl, by rw [← B_ _ _ 5 (by omega)]; exact hc 5 _ rfl⟩

/-! #### struct type 48 -/
structure S48 where
 f0 : ByteArray
 f1 : ByteArray
def z48 : S48 := ⟨(⟨#[]⟩ : ByteArray), (⟨#[]⟩ : ByteArray)⟩
def k48 : Kd S48 := Kd.iso (Kd.pair Kd.string Kd.string) (fun x : S48 => (x.f0, x.f1))
theorem awX : Kd.Heap k48 := Kd.aaj _ (Kd.Cb Kd.yQ Kd.yQ)
theorem aao {w : World} {x : S48} {cs : List Value} (h : k48.K w x cs) : cs = [.string x.f0, .string x.f1] := by
 obtain ⟨_, _, rfl, rfl, rfl⟩ := h
 exact rfl
theorem awK {w : World} {base : Nat} {ok : Nat → Prop} {x : S48} {cs : List Value} (h : k48.M w base ok x cs) : cs = [.string x.f0, .string x.f1] := by
 obtain ⟨_, _, rfl, rfl, rfl⟩ := h
 exact rfl
theorem att (w : World) (x : S48)  : k48.K w x [.string x.f0, .string x.f1] := ⟨[.string x.f0], [.string x.f1], rfl, rfl, rfl⟩
theorem aCE (w : World) (base : Nat) (ok : Nat → Prop) (x : S48)  : k48.M w base ok x [.string x.f0, .string x.f1] := ⟨[.string x.f0], [.string x.f1], rfl, rfl, rfl⟩
theorem aCF (W : World) (ok : Nat → Prop) (x : S48) : Kd.FK k48 W ok x [.string x.f0, .string x.f1] := fun W2 _ => att W2 x
def aiG (xs : List S48) (i : Int) : S48 := xs.getD i.toNat z48
theorem aJK {w : World} {A : Option Addr} {n : Nat} {xs : List S48} (h : Kd.C k48 w A n xs) (i : Int) (h0 : 0 ≤ i) (h1 : i < n) : ∃ ad , A = some ad ∧ w.cell? (ad.add (i.toNat * 2)) = some (.string (aiG xs i).f0) ∧ w.cell? ⟨(ad.add (i.toNat * 2)).block, (ad.add (i.toNat * 2)).off + 1, none⟩ = some (.string (aiG xs i).f1) := by
 obtain ⟨ad, c, e, _, hK, hc0⟩ := Kd.adF h z48 i h0 h1
 have hc : ∀ j u, c[j]? = some u → w.cell? (ad.add (i.toNat * 2 + j)) = some u := hc0
 obtain rfl := aao hK
 exact ⟨ad, e, hc 0 _ rfl, by rw [← B_ _ _ 1 (by omega)]; exact hc 1 _ rfl⟩

def adM (xs : List (List bC)) (i : Int) : (List bC) := xs.getD i.toNat ([] : List bC)
theorem aMY {w : World} {A : Option Addr} {n : Nat} {xs : List (List bC)} (h : Kd.C (Kd.slice 46 k46) w A n xs) (i : Int) (h0 : 0 ≤ i) (h1 : i < n) : ∃ ad A0 c0, A = some ad ∧ w.cell? (ad.add i.toNat) = some (.slice A0 (adM xs i).length c0) ∧ (adM xs i).length ≤ c0 ∧ k46.C w A0 (adM xs i).length (adM xs i) := by
 obtain ⟨ad, c, e, _, hK, hc0⟩ := Kd.adF h ([] : List bC) i h0 h1
 have hc : ∀ j u, c[j]? = some u → w.cell? (ad.add (i.toNat * 1 + j)) = some u := hc0
 obtain ⟨A0, c0, rfl, l0, g0⟩ := hK
 exact ⟨ad, A0, c0, e, awU, l0, g0⟩

def adN (xs : List (List (List bC))) (i : Int) : (List (List bC)) := xs.getD i.toNat ([] : List (List bC))
theorem aMZ {w : World} {A : Option Addr} {n : Nat} {xs : List (List (List bC))} (h : Kd.C (Kd.slice 36 (Kd.slice 46 k46)) w A n xs) (i : Int) (h0 : 0 ≤ i) (h1 : i < n) : ∃ ad A0 c0, A = some ad ∧ w.cell? (ad.add i.toNat) = some (.slice A0 (adN xs i).length c0) ∧ (adN xs i).length ≤ c0 ∧ (Kd.slice 46 k46).C w A0 (adN xs i).length (adN xs i) := by
 obtain ⟨ad, c, e, _, hK, hc0⟩ := Kd.adF h ([] : List (List bC)) i h0 h1
 have hc : ∀ j u, c[j]? = some u → w.cell? (ad.add (i.toNat * 1 + j)) = some u := hc0
 obtain ⟨A0, c0, rfl, l0, g0⟩ := hK
 exact ⟨ad, A0, c0, e, awU, l0, g0⟩

abbrev MF (p : Addr) (x : bC) (w : World) : Prop := w.cell? p = some (.int .u8 x.f0) ∧ w.cell? ⟨p.block, p.off + 1, none⟩ = some (.int .i64 x.f1) ∧ w.cell? ⟨p.block, p.off + 2, none⟩ = some (.string x.f2) ∧ w.cell? ⟨p.block, p.off + 3, none⟩ = some (.string x.f3) ∧ w.cell? ⟨p.block, p.off + 4, none⟩ = some (.string x.f4) ∧ w.cell? ⟨p.block, p.off + 5, none⟩ = some (.int .u64 x.f5)
abbrev B46 (g : Nat) (a b : Int) (c d e : ByteArray) (f : Int) (w : World) : Prop := w.cell? ⟨g, 0, none⟩ = some (.int .u8 a) ∧ w.cell? ⟨g, 1, none⟩ = some (.int .i64 b) ∧ w.cell? ⟨g, 2, none⟩ = some (.string c) ∧ w.cell? ⟨g, 3, none⟩ = some (.string d) ∧ w.cell? ⟨g, 4, none⟩ = some (.string e) ∧ w.cell? ⟨g, 5, none⟩ = some (.int .u64 f)
abbrev F46 (g k : Nat) (x : bC) (w : World) : Prop := w.cell? ⟨g, k, none⟩ = some (.int .u8 x.f0) ∧ w.cell? ⟨g, k + 1, none⟩ = some (.int .i64 x.f1) ∧ w.cell? ⟨g, k + 2, none⟩ = some (.string x.f2) ∧ w.cell? ⟨g, k + 3, none⟩ = some (.string x.f3) ∧ w.cell? ⟨g, k + 4, none⟩ = some (.string x.f4) ∧ w.cell? ⟨g, k + 5, none⟩ = some (.int .u64 x.f5)
theorem xG {w W : World} {p : Addr} {v : Value} (hb : Below w.heap.size w W) (h : w.cell? p = some v) : W.cell? p = some v := (hb.cell (World.block_lt_of_cell? _ _ h)).trans h
theorem yR {w W : World} {p : Addr} {x : bC} (hb : Below w.heap.size w W) (h : MF p x w) : MF p x W := ⟨xG hb h.1, xG hb h.2.1, xG hb h.2.2.1, xG hb h.2.2.2.1, xG hb h.2.2.2.2.1, xG hb h.2.2.2.2.2⟩
theorem awY {w W : World} {g k : Nat} {x : bC} (hb : Below w.heap.size w W) (h : F46 g k x w) : F46 g k x W := ⟨xG hb h.1, xG hb h.2.1, xG hb h.2.2.1, xG hb h.2.2.2.1, xG hb h.2.2.2.2.1, xG hb h.2.2.2.2.2⟩
theorem awZ {w W : World} {g : Nat} {a b : Int} {c d e : ByteArray} {f : Int} (hb : Below w.heap.size w W) (h : B46 g a b c d e f w) : B46 g a b c d e f W := ⟨xG hb h.1, xG hb h.2.1, xG hb h.2.2.1, xG hb h.2.2.2.1, xG hb h.2.2.2.2.1, xG hb h.2.2.2.2.2⟩
theorem EC {w W : World} {p : Addr} {x : bC} (hb : ah (Below w.heap.size w W)) (h : MF p x w) : MF p x W := yR hb.out h
theorem aOV {w W : World} {g k : Nat} {x : bC} (hb : ah (Below w.heap.size w W)) (h : F46 g k x w) : F46 g k x W := awY hb.out h
theorem aOW {w W : World} {g : Nat} {a b : Int} {c d e : ByteArray} {f : Int} (hb : ah (Below w.heap.size w W)) (h : B46 g a b c d e f w) : B46 g a b c d e f W := awZ hb.out h
theorem Lr {w : World} {g : Nat} {a b : Int} {c d e : ByteArray} {f : Int} {t : TypeId} (h : ah (w.heap[g]? = some (.cells #[.int .u8 a, .int .i64 b, .string c, .string d, .string e, .int .u64 f] t (0, 0)))) : B46 g a b c d e f w := ⟨b_ h 0, b_ h 1, b_ h 2, b_ h 3, b_ h 4, b_ h 5⟩
end Go.Proofs.Ytnklnjghecmihaa.L2
