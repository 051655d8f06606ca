/-
  No cell of these rows narrows 'for every input' (looked for: loops, veiled, ifaces, maps, wideKeys, modest, calm, conditions, laid).
  DERIVED. THE GIVEN ROWS OF THIS SEAT. 12 by the template 'for every input the law returns true; each argument reads behind the call as it read before'; 0 by the template 'total and deterministic' (their statements: YtgbnhfppnglamaaTotals.lean).
  GIVEN WITH THE SEED: the statements are not yours to turn. If you find one false, say at which input.
  Laid BY PROGRAM, IN A SANDBOX (cutbox-rows.mjs): the forced cells as the released guide's own fill.sh prints them over the translation 6a0e70e2e73b07cd… (all of the seat's roots in one cut). By AI agents, Wed Nov 11 2026. No macro, syntax, notation, axiom, sorry.
-/
import Derived.Test.YtgbnhfppnglamaaChecked
import GoSem.Claim
import GoSem.ClaimJoined
import GoSem.ClaimMapViews
import Derived.JoinedTies
import Derived.KernelRfl
namespace Go.Proofs.Ytgbnhfppnglamaa
/- THE CELL 'sum', in the pinned program and in every row, IS THE sha256 OF THE DUMP (.gsa) THAT YtgbnhfppnglamaaProg.lean LOADS. Nothing in Lean hashes anything: it is a label: what it is worth is what the hold of that sum in a sandbox is worth. -/
noncomputable def Try.pinned : Pinned := { name := "ytgbnhfppnglamaa", sum := "6a0e70e2e73b07cd37a8f40640e91628debf5459bb60d20016e0dd518c032d1e", checked := Try.checked }
namespace Rows
def none {H : Type} : Left H := { results := [], args := [] }

/-- 'catchmentlaw03.WordValues': WHATEVER THE INPUT: true; the input reads as it did. -/
def wordValuesSpec : ChangeSpec := { name := "wordValues", fn := fun _ => fun
  | [d1, d2, d3] => { results := [.lit (.bool true)], args := [d1, d2, d3] }
  | _ => none }
def wordValuesRow : OpenClaim := { program := "ytgbnhfppnglamaa", sum := "6a0e70e2e73b07cd37a8f40640e91628debf5459bb60d20016e0dd518c032d1e", func := "catchment/catchmentlaw03.WordValues", spec := "wordValues", apart := false }
def WordValuesSaid : Prop := wordValuesRow.holds Try.pinned (OpenSpec.ofChange wordValuesSpec)

/-- ITS FALSE NEIGHBOUR: 'it returns false'. Refute it at one input. -/
def wordValuesWrong : ChangeSpec := { name := "wordValues", fn := fun _ => fun
  | [d1, d2, d3] => { results := [.lit (.bool false)], args := [d1, d2, d3] }
  | _ => none }
def WordValuesWrongFalsely : Prop := wordValuesRow.holds Try.pinned (OpenSpec.ofChange wordValuesWrong)

/-- 'catchmentlaw03.WordAdds': WHATEVER THE INPUT: true; the input reads as it did. -/
def wordAddsSpec : ChangeSpec := { name := "wordAdds", fn := fun _ => fun
  | [d1, d2, d3, d4] => { results := [.lit (.bool true)], args := [d1, d2, d3, d4] }
  | _ => none }
def wordAddsRow : OpenClaim := { program := "ytgbnhfppnglamaa", sum := "6a0e70e2e73b07cd37a8f40640e91628debf5459bb60d20016e0dd518c032d1e", func := "catchment/catchmentlaw03.WordAdds", spec := "wordAdds", apart := false }
def WordAddsSaid : Prop := wordAddsRow.holds Try.pinned (OpenSpec.ofChange wordAddsSpec)

/-- ITS FALSE NEIGHBOUR: 'it returns false'. Refute it at one input. -/
def wordAddsWrong : ChangeSpec := { name := "wordAdds", fn := fun _ => fun
  | [d1, d2, d3, d4] => { results := [.lit (.bool false)], args := [d1, d2, d3, d4] }
  | _ => none }
def WordAddsWrongFalsely : Prop := wordAddsRow.holds Try.pinned (OpenSpec.ofChange wordAddsWrong)

/-- 'catchmentlaw03.WordTakes': WHATEVER THE INPUT: true; the input reads as it did. -/
def wordTakesSpec : ChangeSpec := { name := "wordTakes", fn := fun _ => fun
  | [d1, d2, d3, d4] => { results := [.lit (.bool true)], args := [d1, d2, d3, d4] }
  | _ => none }
def wordTakesRow : OpenClaim := { program := "ytgbnhfppnglamaa", sum := "6a0e70e2e73b07cd37a8f40640e91628debf5459bb60d20016e0dd518c032d1e", func := "catchment/catchmentlaw03.WordTakes", spec := "wordTakes", recurses := true, apart := false }
def WordTakesSaid : Prop := wordTakesRow.holds Try.pinned (OpenSpec.ofChange wordTakesSpec)

/-- ITS FALSE NEIGHBOUR: 'it returns false'. Refute it at one input. -/
def wordTakesWrong : ChangeSpec := { name := "wordTakes", fn := fun _ => fun
  | [d1, d2, d3, d4] => { results := [.lit (.bool false)], args := [d1, d2, d3, d4] }
  | _ => none }
def WordTakesWrongFalsely : Prop := wordTakesRow.holds Try.pinned (OpenSpec.ofChange wordTakesWrong)

/-- 'catchmentlaw08.ArenaTexts': WHATEVER THE INPUT: true; the input reads as it did. -/
def arenaTextsSpec : ChangeSpec := { name := "arenaTexts", fn := fun _ => fun
  | [d] => { results := [.lit (.bool true)], args := [d] }
  | _ => none }
def arenaTextsRow : OpenClaim := { program := "ytgbnhfppnglamaa", sum := "6a0e70e2e73b07cd37a8f40640e91628debf5459bb60d20016e0dd518c032d1e", func := "catchment/catchmentlaw08.ArenaTexts", spec := "arenaTexts", apart := false }
def ArenaTextsSaid : Prop := arenaTextsRow.holds Try.pinned (OpenSpec.ofChange arenaTextsSpec)

/-- ITS FALSE NEIGHBOUR: 'it returns false'. Refute it at one input. -/
def arenaTextsWrong : ChangeSpec := { name := "arenaTexts", fn := fun _ => fun
  | [d] => { results := [.lit (.bool false)], args := [d] }
  | _ => none }
def ArenaTextsWrongFalsely : Prop := arenaTextsRow.holds Try.pinned (OpenSpec.ofChange arenaTextsWrong)

/-- 'catchmentlaw08.ArenaPlays': WHATEVER THE INPUT: true; the input reads as it did. -/
def arenaPlaysSpec : ChangeSpec := { name := "arenaPlays", fn := fun _ => fun
  | [d1, d2] => { results := [.lit (.bool true)], args := [d1, d2] }
  | _ => none }
def arenaPlaysRow : OpenClaim := { program := "ytgbnhfppnglamaa", sum := "6a0e70e2e73b07cd37a8f40640e91628debf5459bb60d20016e0dd518c032d1e", func := "catchment/catchmentlaw08.ArenaPlays", spec := "arenaPlays", unfollowed := true, recurses := true, apart := false }
def ArenaPlaysSaid : Prop := arenaPlaysRow.holds Try.pinned (OpenSpec.ofChange arenaPlaysSpec)

/-- ITS FALSE NEIGHBOUR: 'it returns false'. Refute it at one input. -/
def arenaPlaysWrong : ChangeSpec := { name := "arenaPlays", fn := fun _ => fun
  | [d1, d2] => { results := [.lit (.bool false)], args := [d1, d2] }
  | _ => none }
def ArenaPlaysWrongFalsely : Prop := arenaPlaysRow.holds Try.pinned (OpenSpec.ofChange arenaPlaysWrong)

/-- 'catchmentlaw08.ArenaOnce': WHATEVER THE INPUT: true; the input reads as it did. -/
def arenaOnceSpec : ChangeSpec := { name := "arenaOnce", fn := fun _ => fun
  | [d] => { results := [.lit (.bool true)], args := [d] }
  | _ => none }
def arenaOnceRow : OpenClaim := { program := "ytgbnhfppnglamaa", sum := "6a0e70e2e73b07cd37a8f40640e91628debf5459bb60d20016e0dd518c032d1e", func := "catchment/catchmentlaw08.ArenaOnce", spec := "arenaOnce", unfollowed := true, recurses := true, apart := false }
def ArenaOnceSaid : Prop := arenaOnceRow.holds Try.pinned (OpenSpec.ofChange arenaOnceSpec)

/-- ITS FALSE NEIGHBOUR: 'it returns false'. Refute it at one input. -/
def arenaOnceWrong : ChangeSpec := { name := "arenaOnce", fn := fun _ => fun
  | [d] => { results := [.lit (.bool false)], args := [d] }
  | _ => none }
def ArenaOnceWrongFalsely : Prop := arenaOnceRow.holds Try.pinned (OpenSpec.ofChange arenaOnceWrong)

/-- 'catchmentlaw03.WordBack': WHATEVER THE INPUT: true; the input reads as it did. -/
def wordBackSpec : ChangeSpec := { name := "wordBack", fn := fun _ => fun
  | [d1, d2, d3] => { results := [.lit (.bool true)], args := [d1, d2, d3] }
  | _ => none }
def wordBackRow : OpenClaim := { program := "ytgbnhfppnglamaa", sum := "6a0e70e2e73b07cd37a8f40640e91628debf5459bb60d20016e0dd518c032d1e", func := "catchment/catchmentlaw03.WordBack", spec := "wordBack", inPlace := ["internal/abi.NoEscape"], recurses := true, apart := false }
def WordBackSaid : Prop := wordBackRow.holds Try.pinned (OpenSpec.ofChange wordBackSpec)

/-- ITS FALSE NEIGHBOUR: 'it returns false'. Refute it at one input. -/
def wordBackWrong : ChangeSpec := { name := "wordBack", fn := fun _ => fun
  | [d1, d2, d3] => { results := [.lit (.bool false)], args := [d1, d2, d3] }
  | _ => none }
def WordBackWrongFalsely : Prop := wordBackRow.holds Try.pinned (OpenSpec.ofChange wordBackWrong)

/-- 'catchmentlaw03.WordCuts': WHATEVER THE INPUT: true; the input reads as it did. -/
def wordCutsSpec : ChangeSpec := { name := "wordCuts", fn := fun _ => fun
  | [d1, d2] => { results := [.lit (.bool true)], args := [d1, d2] }
  | _ => none }
def wordCutsRow : OpenClaim := { program := "ytgbnhfppnglamaa", sum := "6a0e70e2e73b07cd37a8f40640e91628debf5459bb60d20016e0dd518c032d1e", func := "catchment/catchmentlaw03.WordCuts", spec := "wordCuts", inPlace := ["internal/abi.NoEscape"], apart := false }
def WordCutsSaid : Prop := wordCutsRow.holds Try.pinned (OpenSpec.ofChange wordCutsSpec)

/-- ITS FALSE NEIGHBOUR: 'it returns false'. Refute it at one input. -/
def wordCutsWrong : ChangeSpec := { name := "wordCuts", fn := fun _ => fun
  | [d1, d2] => { results := [.lit (.bool false)], args := [d1, d2] }
  | _ => none }
def WordCutsWrongFalsely : Prop := wordCutsRow.holds Try.pinned (OpenSpec.ofChange wordCutsWrong)

/-- 'catchmentlaw13.PivotSpans': WHATEVER THE INPUT: true; the input reads as it did. -/
def pivotSpansSpec : ChangeSpec := { name := "pivotSpans", fn := fun _ => fun
  | [d1, d2, d3, d4] => { results := [.lit (.bool true)], args := [d1, d2, d3, d4] }
  | _ => none }
def pivotSpansRow : OpenClaim := { program := "ytgbnhfppnglamaa", sum := "6a0e70e2e73b07cd37a8f40640e91628debf5459bb60d20016e0dd518c032d1e", func := "catchment/catchmentlaw13.PivotSpans", spec := "pivotSpans", unfollowed := true, recurses := true, apart := false }
def PivotSpansSaid : Prop := pivotSpansRow.holds Try.pinned (OpenSpec.ofChange pivotSpansSpec)

/-- ITS FALSE NEIGHBOUR: 'it returns false'. Refute it at one input. -/
def pivotSpansWrong : ChangeSpec := { name := "pivotSpans", fn := fun _ => fun
  | [d1, d2, d3, d4] => { results := [.lit (.bool false)], args := [d1, d2, d3, d4] }
  | _ => none }
def PivotSpansWrongFalsely : Prop := pivotSpansRow.holds Try.pinned (OpenSpec.ofChange pivotSpansWrong)

/-- 'catchmentlaw13.PivotParts': WHATEVER THE INPUT: true; the input reads as it did. -/
def pivotPartsSpec : ChangeSpec := { name := "pivotParts", fn := fun _ => fun
  | [d1, d2, d3] => { results := [.lit (.bool true)], args := [d1, d2, d3] }
  | _ => none }
def pivotPartsRow : OpenClaim := { program := "ytgbnhfppnglamaa", sum := "6a0e70e2e73b07cd37a8f40640e91628debf5459bb60d20016e0dd518c032d1e", func := "catchment/catchmentlaw13.PivotParts", spec := "pivotParts", unfollowed := true, recurses := true, apart := false }
def PivotPartsSaid : Prop := pivotPartsRow.holds Try.pinned (OpenSpec.ofChange pivotPartsSpec)

/-- ITS FALSE NEIGHBOUR: 'it returns false'. Refute it at one input. -/
def pivotPartsWrong : ChangeSpec := { name := "pivotParts", fn := fun _ => fun
  | [d1, d2, d3] => { results := [.lit (.bool false)], args := [d1, d2, d3] }
  | _ => none }
def PivotPartsWrongFalsely : Prop := pivotPartsRow.holds Try.pinned (OpenSpec.ofChange pivotPartsWrong)

/-- 'catchmentlaw08.ArenaForks': WHATEVER THE INPUT: true; the input reads as it did. -/
def arenaForksSpec : ChangeSpec := { name := "arenaForks", fn := fun _ => fun
  | [d1, d2] => { results := [.lit (.bool true)], args := [d1, d2] }
  | _ => none }
def arenaForksRow : OpenClaim := { program := "ytgbnhfppnglamaa", sum := "6a0e70e2e73b07cd37a8f40640e91628debf5459bb60d20016e0dd518c032d1e", func := "catchment/catchmentlaw08.ArenaForks", spec := "arenaForks", unfollowed := true, recurses := true, apart := false }
def ArenaForksSaid : Prop := arenaForksRow.holds Try.pinned (OpenSpec.ofChange arenaForksSpec)

/-- ITS FALSE NEIGHBOUR: 'it returns false'. Refute it at one input. -/
def arenaForksWrong : ChangeSpec := { name := "arenaForks", fn := fun _ => fun
  | [d1, d2] => { results := [.lit (.bool false)], args := [d1, d2] }
  | _ => none }
def ArenaForksWrongFalsely : Prop := arenaForksRow.holds Try.pinned (OpenSpec.ofChange arenaForksWrong)

/-- 'catchmentlaw13.PivotSplits': WHATEVER THE INPUT: true; the input reads as it did. -/
def pivotSplitsSpec : ChangeSpec := { name := "pivotSplits", fn := fun _ => fun
  | [d1, d2, d3] => { results := [.lit (.bool true)], args := [d1, d2, d3] }
  | _ => none }
def pivotSplitsRow : OpenClaim := { program := "ytgbnhfppnglamaa", sum := "6a0e70e2e73b07cd37a8f40640e91628debf5459bb60d20016e0dd518c032d1e", func := "catchment/catchmentlaw13.PivotSplits", spec := "pivotSplits", inPlace := ["slices.overlaps[string]"], unfollowed := true, recurses := true, apart := false }
def PivotSplitsSaid : Prop := pivotSplitsRow.holds Try.pinned (OpenSpec.ofChange pivotSplitsSpec)

/-- ITS FALSE NEIGHBOUR: 'it returns false'. Refute it at one input. -/
def pivotSplitsWrong : ChangeSpec := { name := "pivotSplits", fn := fun _ => fun
  | [d1, d2, d3] => { results := [.lit (.bool false)], args := [d1, d2, d3] }
  | _ => none }
def PivotSplitsWrongFalsely : Prop := pivotSplitsRow.holds Try.pinned (OpenSpec.ofChange pivotSplitsWrong)

/- THE SECOND FORM. 'bulk': how many values and letters a reading holds, each counted each time it is reached (what is shared counts as often as it is met; a slice's spare places count too). A statement '..UptoSaid' is the law's where the arguments, and the package variables that the reading takes, are together of bulk at most 1048576: NARROWER than '..Said'. Prove '..Said' where nothing that the law and all that it calls make is longer than what came in: it says more and counts as full. Else prove '..UptoSaid'. A law counts once. -/
mutual
def uptoBulk {H : Type} : DataW H → Nat
  | .lit (.string bytes) => bytes.length + 1
  | .lit _ => 1
  | .nil => 1
  | .ptr d => uptoBulk d + 1
  | .slice elems spare => uptoBulkAll elems + uptoBulkAll spare + 1
  | .agg parts => uptoBulkAll parts + 1
  | .iface _ d => uptoBulk d + 1
  | .map entries => uptoBulkEntries entries + 1
  | .held _ => 1
def uptoBulkAll {H : Type} : List (DataW H) → Nat
  | [] => 0
  | d :: r => uptoBulk d + uptoBulkAll r
def uptoBulkEntries {H : Type} : List (Lit × DataW H) → Nat
  | [] => 0
  | x :: r => uptoBulkEntry x + uptoBulkEntries r
def uptoBulkEntry {H : Type} : Lit × DataW H → Nat
  | (.string bytes, d) => bytes.length + uptoBulk d + 1
  | (_, d) => uptoBulk d + 1
 end
def uptoSmall : (H : Type) → List (DataW H) → Bool := fun _ ds => decide (uptoBulkAll ds ≤ 1048576)
def OpenSpec.upto (s : _root_.Go.ChangeSpec) : _root_.Go.OpenSpec := { _root_.Go.OpenSpec.ofChange s with cond := some uptoSmall }

/-- 'catchmentlaw03.WordValues', WHERE WHAT IT READS IS OF BULK AT MOST 1048576: true; the input reads as it did. -/
def wordValuesUptoRow : OpenClaim := { program := "ytgbnhfppnglamaa", sum := "6a0e70e2e73b07cd37a8f40640e91628debf5459bb60d20016e0dd518c032d1e", func := "catchment/catchmentlaw03.WordValues", spec := "wordValues", apart := false, narrowed := true }
def WordValuesUptoSaid : Prop := wordValuesUptoRow.holds Try.pinned (OpenSpec.upto wordValuesSpec)

/-- 'catchmentlaw03.WordAdds', WHERE WHAT IT READS IS OF BULK AT MOST 1048576: true; the input reads as it did. -/
def wordAddsUptoRow : OpenClaim := { program := "ytgbnhfppnglamaa", sum := "6a0e70e2e73b07cd37a8f40640e91628debf5459bb60d20016e0dd518c032d1e", func := "catchment/catchmentlaw03.WordAdds", spec := "wordAdds", apart := false, narrowed := true }
def WordAddsUptoSaid : Prop := wordAddsUptoRow.holds Try.pinned (OpenSpec.upto wordAddsSpec)

/-- 'catchmentlaw03.WordTakes', WHERE WHAT IT READS IS OF BULK AT MOST 1048576: true; the input reads as it did. -/
def wordTakesUptoRow : OpenClaim := { program := "ytgbnhfppnglamaa", sum := "6a0e70e2e73b07cd37a8f40640e91628debf5459bb60d20016e0dd518c032d1e", func := "catchment/catchmentlaw03.WordTakes", spec := "wordTakes", recurses := true, apart := false, narrowed := true }
def WordTakesUptoSaid : Prop := wordTakesUptoRow.holds Try.pinned (OpenSpec.upto wordTakesSpec)

/-- 'catchmentlaw08.ArenaTexts', WHERE WHAT IT READS IS OF BULK AT MOST 1048576: true; the input reads as it did. -/
def arenaTextsUptoRow : OpenClaim := { program := "ytgbnhfppnglamaa", sum := "6a0e70e2e73b07cd37a8f40640e91628debf5459bb60d20016e0dd518c032d1e", func := "catchment/catchmentlaw08.ArenaTexts", spec := "arenaTexts", apart := false, narrowed := true }
def ArenaTextsUptoSaid : Prop := arenaTextsUptoRow.holds Try.pinned (OpenSpec.upto arenaTextsSpec)

/-- 'catchmentlaw08.ArenaPlays', WHERE WHAT IT READS IS OF BULK AT MOST 1048576: true; the input reads as it did. -/
def arenaPlaysUptoRow : OpenClaim := { program := "ytgbnhfppnglamaa", sum := "6a0e70e2e73b07cd37a8f40640e91628debf5459bb60d20016e0dd518c032d1e", func := "catchment/catchmentlaw08.ArenaPlays", spec := "arenaPlays", unfollowed := true, recurses := true, apart := false, narrowed := true }
def ArenaPlaysUptoSaid : Prop := arenaPlaysUptoRow.holds Try.pinned (OpenSpec.upto arenaPlaysSpec)

/-- 'catchmentlaw08.ArenaOnce', WHERE WHAT IT READS IS OF BULK AT MOST 1048576: true; the input reads as it did. -/
def arenaOnceUptoRow : OpenClaim := { program := "ytgbnhfppnglamaa", sum := "6a0e70e2e73b07cd37a8f40640e91628debf5459bb60d20016e0dd518c032d1e", func := "catchment/catchmentlaw08.ArenaOnce", spec := "arenaOnce", unfollowed := true, recurses := true, apart := false, narrowed := true }
def ArenaOnceUptoSaid : Prop := arenaOnceUptoRow.holds Try.pinned (OpenSpec.upto arenaOnceSpec)

/-- 'catchmentlaw03.WordBack', WHERE WHAT IT READS IS OF BULK AT MOST 1048576: true; the input reads as it did. -/
def wordBackUptoRow : OpenClaim := { program := "ytgbnhfppnglamaa", sum := "6a0e70e2e73b07cd37a8f40640e91628debf5459bb60d20016e0dd518c032d1e", func := "catchment/catchmentlaw03.WordBack", spec := "wordBack", inPlace := ["internal/abi.NoEscape"], recurses := true, apart := false, narrowed := true }
def WordBackUptoSaid : Prop := wordBackUptoRow.holds Try.pinned (OpenSpec.upto wordBackSpec)

/-- 'catchmentlaw03.WordCuts', WHERE WHAT IT READS IS OF BULK AT MOST 1048576: true; the input reads as it did. -/
def wordCutsUptoRow : OpenClaim := { program := "ytgbnhfppnglamaa", sum := "6a0e70e2e73b07cd37a8f40640e91628debf5459bb60d20016e0dd518c032d1e", func := "catchment/catchmentlaw03.WordCuts", spec := "wordCuts", inPlace := ["internal/abi.NoEscape"], apart := false, narrowed := true }
def WordCutsUptoSaid : Prop := wordCutsUptoRow.holds Try.pinned (OpenSpec.upto wordCutsSpec)

/-- 'catchmentlaw13.PivotSpans', WHERE WHAT IT READS IS OF BULK AT MOST 1048576: true; the input reads as it did. -/
def pivotSpansUptoRow : OpenClaim := { program := "ytgbnhfppnglamaa", sum := "6a0e70e2e73b07cd37a8f40640e91628debf5459bb60d20016e0dd518c032d1e", func := "catchment/catchmentlaw13.PivotSpans", spec := "pivotSpans", unfollowed := true, recurses := true, apart := false, narrowed := true }
def PivotSpansUptoSaid : Prop := pivotSpansUptoRow.holds Try.pinned (OpenSpec.upto pivotSpansSpec)

/-- 'catchmentlaw13.PivotParts', WHERE WHAT IT READS IS OF BULK AT MOST 1048576: true; the input reads as it did. -/
def pivotPartsUptoRow : OpenClaim := { program := "ytgbnhfppnglamaa", sum := "6a0e70e2e73b07cd37a8f40640e91628debf5459bb60d20016e0dd518c032d1e", func := "catchment/catchmentlaw13.PivotParts", spec := "pivotParts", unfollowed := true, recurses := true, apart := false, narrowed := true }
def PivotPartsUptoSaid : Prop := pivotPartsUptoRow.holds Try.pinned (OpenSpec.upto pivotPartsSpec)

/-- 'catchmentlaw08.ArenaForks', WHERE WHAT IT READS IS OF BULK AT MOST 1048576: true; the input reads as it did. -/
def arenaForksUptoRow : OpenClaim := { program := "ytgbnhfppnglamaa", sum := "6a0e70e2e73b07cd37a8f40640e91628debf5459bb60d20016e0dd518c032d1e", func := "catchment/catchmentlaw08.ArenaForks", spec := "arenaForks", unfollowed := true, recurses := true, apart := false, narrowed := true }
def ArenaForksUptoSaid : Prop := arenaForksUptoRow.holds Try.pinned (OpenSpec.upto arenaForksSpec)

/-- 'catchmentlaw13.PivotSplits', WHERE WHAT IT READS IS OF BULK AT MOST 1048576: true; the input reads as it did. -/
def pivotSplitsUptoRow : OpenClaim := { program := "ytgbnhfppnglamaa", sum := "6a0e70e2e73b07cd37a8f40640e91628debf5459bb60d20016e0dd518c032d1e", func := "catchment/catchmentlaw13.PivotSplits", spec := "pivotSplits", inPlace := ["slices.overlaps[string]"], unfollowed := true, recurses := true, apart := false, narrowed := true }
def PivotSplitsUptoSaid : Prop := pivotSplitsUptoRow.holds Try.pinned (OpenSpec.upto pivotSplitsSpec)

end Rows
end Go.Proofs.Ytgbnhfppnglamaa
