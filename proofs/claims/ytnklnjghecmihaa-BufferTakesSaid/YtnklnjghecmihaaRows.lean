/-
  No cell of these rows narrows 'for every input' (looked for: loops, veiled, ifaces, maps, wideKeys, modest, calm, conditions, laid).
  DERIVED. THE GIVEN ROWS OF THIS SEAT. 12 by the template 'for every input the law returns true; each argument reads behind the call as it read before'; 0 by the template 'total and deterministic' (their statements: YtnklnjghecmihaaTotals.lean).
  GIVEN WITH THE SEED: the statements are not yours to turn. If you find one false, say at which input.
  Laid BY PROGRAM, IN A SANDBOX (cutbox-rows.mjs): the forced cells as the released guide's own fill.sh prints them over the translation 5022bc3413f51579… (all of the seat's roots in one cut). By AI agents, Wed Nov 11 2026. No macro, syntax, notation, axiom, sorry.
-/
import Derived.Test.YtnklnjghecmihaaChecked
import GoSem.Claim
import GoSem.ClaimJoined
import GoSem.ClaimMapViews
import Derived.JoinedTies
import Derived.KernelRfl
namespace Go.Proofs.Ytnklnjghecmihaa
/- THE CELL 'sum', in the pinned program and in every row, IS THE sha256 OF THE DUMP (.gsa) THAT YtnklnjghecmihaaProg.lean LOADS. Nothing in Lean hashes anything: it is a label: what it is worth is what the hold of that sum in a sandbox is worth. -/
noncomputable def Try.pinned : Pinned := { name := "ytnklnjghecmihaa", sum := "5022bc3413f515790367ca283cb7f391003a85b22aee23c94f1d24c270b872f3", checked := Try.checked }
namespace Rows
def none {H : Type} : Left H := { results := [], args := [] }

/-- 'catchmentlaw10.BlockPacks': WHATEVER THE INPUT: true; the input reads as it did. -/
def blockPacksSpec : ChangeSpec := { name := "blockPacks", fn := fun _ => fun
  | [d1, d2] => { results := [.lit (.bool true)], args := [d1, d2] }
  | _ => none }
def blockPacksRow : OpenClaim := { program := "ytnklnjghecmihaa", sum := "5022bc3413f515790367ca283cb7f391003a85b22aee23c94f1d24c270b872f3", func := "catchment/catchmentlaw10.BlockPacks", spec := "blockPacks", inPlace := ["internal/bytealg.abigen_runtime_cmpstring", "internal/abi.NoEscape"], unfollowed := true, recurses := true, apart := false }
def BlockPacksSaid : Prop := blockPacksRow.holds Try.pinned (OpenSpec.ofChange blockPacksSpec)

/-- ITS FALSE NEIGHBOUR: 'it returns false'. Refute it at one input. -/
def blockPacksWrong : ChangeSpec := { name := "blockPacks", fn := fun _ => fun
  | [d1, d2] => { results := [.lit (.bool false)], args := [d1, d2] }
  | _ => none }
def BlockPacksWrongFalsely : Prop := blockPacksRow.holds Try.pinned (OpenSpec.ofChange blockPacksWrong)

/-- 'catchmentlaw10.BlockBack': WHATEVER THE INPUT: true; the input reads as it did. -/
def blockBackSpec : ChangeSpec := { name := "blockBack", fn := fun _ => fun
  | [d1, d2] => { results := [.lit (.bool true)], args := [d1, d2] }
  | _ => none }
def blockBackRow : OpenClaim := { program := "ytnklnjghecmihaa", sum := "5022bc3413f515790367ca283cb7f391003a85b22aee23c94f1d24c270b872f3", func := "catchment/catchmentlaw10.BlockBack", spec := "blockBack", inPlace := ["internal/bytealg.abigen_runtime_cmpstring", "internal/abi.NoEscape"], unfollowed := true, recurses := true, apart := false }
def BlockBackSaid : Prop := blockBackRow.holds Try.pinned (OpenSpec.ofChange blockBackSpec)

/-- ITS FALSE NEIGHBOUR: 'it returns false'. Refute it at one input. -/
def blockBackWrong : ChangeSpec := { name := "blockBack", fn := fun _ => fun
  | [d1, d2] => { results := [.lit (.bool false)], args := [d1, d2] }
  | _ => none }
def BlockBackWrongFalsely : Prop := blockBackRow.holds Try.pinned (OpenSpec.ofChange blockBackWrong)

/-- 'catchmentlaw10.BlockHalves': WHATEVER THE INPUT: true; the input reads as it did. -/
def blockHalvesSpec : ChangeSpec := { name := "blockHalves", fn := fun _ => fun
  | [d] => { results := [.lit (.bool true)], args := [d] }
  | _ => none }
def blockHalvesRow : OpenClaim := { program := "ytnklnjghecmihaa", sum := "5022bc3413f515790367ca283cb7f391003a85b22aee23c94f1d24c270b872f3", func := "catchment/catchmentlaw10.BlockHalves", spec := "blockHalves", inPlace := ["internal/bytealg.abigen_runtime_cmpstring", "internal/abi.NoEscape"], unfollowed := true, recurses := true, apart := false }
def BlockHalvesSaid : Prop := blockHalvesRow.holds Try.pinned (OpenSpec.ofChange blockHalvesSpec)

/-- ITS FALSE NEIGHBOUR: 'it returns false'. Refute it at one input. -/
def blockHalvesWrong : ChangeSpec := { name := "blockHalves", fn := fun _ => fun
  | [d] => { results := [.lit (.bool false)], args := [d] }
  | _ => none }
def BlockHalvesWrongFalsely : Prop := blockHalvesRow.holds Try.pinned (OpenSpec.ofChange blockHalvesWrong)

/-- 'catchmentlaw12.BufferAdds': WHATEVER THE INPUT: true; the input reads as it did. -/
def bufferAddsSpec : ChangeSpec := { name := "bufferAdds", fn := fun _ => fun
  | [d1, d2] => { results := [.lit (.bool true)], args := [d1, d2] }
  | _ => none }
def bufferAddsRow : OpenClaim := { program := "ytnklnjghecmihaa", sum := "5022bc3413f515790367ca283cb7f391003a85b22aee23c94f1d24c270b872f3", func := "catchment/catchmentlaw12.BufferAdds", spec := "bufferAdds", unfollowed := true, recurses := true, apart := false }
def BufferAddsSaid : Prop := bufferAddsRow.holds Try.pinned (OpenSpec.ofChange bufferAddsSpec)

/-- ITS FALSE NEIGHBOUR: 'it returns false'. Refute it at one input. -/
def bufferAddsWrong : ChangeSpec := { name := "bufferAdds", fn := fun _ => fun
  | [d1, d2] => { results := [.lit (.bool false)], args := [d1, d2] }
  | _ => none }
def BufferAddsWrongFalsely : Prop := bufferAddsRow.holds Try.pinned (OpenSpec.ofChange bufferAddsWrong)

/-- 'catchmentlaw12.BufferTakes': WHATEVER THE INPUT: true; the input reads as it did. -/
def bufferTakesSpec : ChangeSpec := { name := "bufferTakes", fn := fun _ => fun
  | [d1, d2] => { results := [.lit (.bool true)], args := [d1, d2] }
  | _ => none }
def bufferTakesRow : OpenClaim := { program := "ytnklnjghecmihaa", sum := "5022bc3413f515790367ca283cb7f391003a85b22aee23c94f1d24c270b872f3", func := "catchment/catchmentlaw12.BufferTakes", spec := "bufferTakes", unfollowed := true, recurses := true, apart := false }
def BufferTakesSaid : Prop := bufferTakesRow.holds Try.pinned (OpenSpec.ofChange bufferTakesSpec)

/-- ITS FALSE NEIGHBOUR: 'it returns false'. Refute it at one input. -/
def bufferTakesWrong : ChangeSpec := { name := "bufferTakes", fn := fun _ => fun
  | [d1, d2] => { results := [.lit (.bool false)], args := [d1, d2] }
  | _ => none }
def BufferTakesWrongFalsely : Prop := bufferTakesRow.holds Try.pinned (OpenSpec.ofChange bufferTakesWrong)

/-- 'catchmentlaw16.ShapeSizes': WHATEVER THE INPUT: true; the input reads as it did. -/
def shapeSizesSpec : ChangeSpec := { name := "shapeSizes", fn := fun _ => fun
  | [d1, d2] => { results := [.lit (.bool true)], args := [d1, d2] }
  | _ => none }
def shapeSizesRow : OpenClaim := { program := "ytnklnjghecmihaa", sum := "5022bc3413f515790367ca283cb7f391003a85b22aee23c94f1d24c270b872f3", func := "catchment/catchmentlaw16.ShapeSizes", spec := "shapeSizes", unfollowed := true, recurses := true, apart := false }
def ShapeSizesSaid : Prop := shapeSizesRow.holds Try.pinned (OpenSpec.ofChange shapeSizesSpec)

/-- ITS FALSE NEIGHBOUR: 'it returns false'. Refute it at one input. -/
def shapeSizesWrong : ChangeSpec := { name := "shapeSizes", fn := fun _ => fun
  | [d1, d2] => { results := [.lit (.bool false)], args := [d1, d2] }
  | _ => none }
def ShapeSizesWrongFalsely : Prop := shapeSizesRow.holds Try.pinned (OpenSpec.ofChange shapeSizesWrong)

/-- 'catchmentlaw16.ShapeAges': WHATEVER THE INPUT: true; the input reads as it did. -/
def shapeAgesSpec : ChangeSpec := { name := "shapeAges", fn := fun _ => fun
  | [d1, d2, d3] => { results := [.lit (.bool true)], args := [d1, d2, d3] }
  | _ => none }
def shapeAgesRow : OpenClaim := { program := "ytnklnjghecmihaa", sum := "5022bc3413f515790367ca283cb7f391003a85b22aee23c94f1d24c270b872f3", func := "catchment/catchmentlaw16.ShapeAges", spec := "shapeAges", unfollowed := true, recurses := true, apart := false }
def ShapeAgesSaid : Prop := shapeAgesRow.holds Try.pinned (OpenSpec.ofChange shapeAgesSpec)

/-- ITS FALSE NEIGHBOUR: 'it returns false'. Refute it at one input. -/
def shapeAgesWrong : ChangeSpec := { name := "shapeAges", fn := fun _ => fun
  | [d1, d2, d3] => { results := [.lit (.bool false)], args := [d1, d2, d3] }
  | _ => none }
def ShapeAgesWrongFalsely : Prop := shapeAgesRow.holds Try.pinned (OpenSpec.ofChange shapeAgesWrong)

/-- 'catchmentlaw12.BufferParts': WHATEVER THE INPUT: true; the input reads as it did. -/
def bufferPartsSpec : ChangeSpec := { name := "bufferParts", fn := fun _ => fun
  | [d1, d2, d3, d4, d5] => { results := [.lit (.bool true)], args := [d1, d2, d3, d4, d5] }
  | _ => none }
def bufferPartsRow : OpenClaim := { program := "ytnklnjghecmihaa", sum := "5022bc3413f515790367ca283cb7f391003a85b22aee23c94f1d24c270b872f3", func := "catchment/catchmentlaw12.BufferParts", spec := "bufferParts", unfollowed := true, recurses := true, apart := false }
def BufferPartsSaid : Prop := bufferPartsRow.holds Try.pinned (OpenSpec.ofChange bufferPartsSpec)

/-- ITS FALSE NEIGHBOUR: 'it returns false'. Refute it at one input. -/
def bufferPartsWrong : ChangeSpec := { name := "bufferParts", fn := fun _ => fun
  | [d1, d2, d3, d4, d5] => { results := [.lit (.bool false)], args := [d1, d2, d3, d4, d5] }
  | _ => none }
def BufferPartsWrongFalsely : Prop := bufferPartsRow.holds Try.pinned (OpenSpec.ofChange bufferPartsWrong)

/-- 'catchmentlaw12.BufferLooks': WHATEVER THE INPUT: true; the input reads as it did. -/
def bufferLooksSpec : ChangeSpec := { name := "bufferLooks", fn := fun _ => fun
  | [d1, d2, d3] => { results := [.lit (.bool true)], args := [d1, d2, d3] }
  | _ => none }
def bufferLooksRow : OpenClaim := { program := "ytnklnjghecmihaa", sum := "5022bc3413f515790367ca283cb7f391003a85b22aee23c94f1d24c270b872f3", func := "catchment/catchmentlaw12.BufferLooks", spec := "bufferLooks", unfollowed := true, recurses := true, apart := false }
def BufferLooksSaid : Prop := bufferLooksRow.holds Try.pinned (OpenSpec.ofChange bufferLooksSpec)

/-- ITS FALSE NEIGHBOUR: 'it returns false'. Refute it at one input. -/
def bufferLooksWrong : ChangeSpec := { name := "bufferLooks", fn := fun _ => fun
  | [d1, d2, d3] => { results := [.lit (.bool false)], args := [d1, d2, d3] }
  | _ => none }
def BufferLooksWrongFalsely : Prop := bufferLooksRow.holds Try.pinned (OpenSpec.ofChange bufferLooksWrong)

/-- 'catchmentlaw12.BufferSpans': WHATEVER THE INPUT: true; the input reads as it did. -/
def bufferSpansSpec : ChangeSpec := { name := "bufferSpans", fn := fun _ => fun
  | [d1, d2] => { results := [.lit (.bool true)], args := [d1, d2] }
  | _ => none }
def bufferSpansRow : OpenClaim := { program := "ytnklnjghecmihaa", sum := "5022bc3413f515790367ca283cb7f391003a85b22aee23c94f1d24c270b872f3", func := "catchment/catchmentlaw12.BufferSpans", spec := "bufferSpans", unfollowed := true, recurses := true, apart := false }
def BufferSpansSaid : Prop := bufferSpansRow.holds Try.pinned (OpenSpec.ofChange bufferSpansSpec)

/-- ITS FALSE NEIGHBOUR: 'it returns false'. Refute it at one input. -/
def bufferSpansWrong : ChangeSpec := { name := "bufferSpans", fn := fun _ => fun
  | [d1, d2] => { results := [.lit (.bool false)], args := [d1, d2] }
  | _ => none }
def BufferSpansWrongFalsely : Prop := bufferSpansRow.holds Try.pinned (OpenSpec.ofChange bufferSpansWrong)

/-- 'catchmentlaw10.BlockDoes': WHATEVER THE INPUT: true; the input reads as it did. -/
def blockDoesSpec : ChangeSpec := { name := "blockDoes", fn := fun _ => fun
  | [d1, d2, d3, d4] => { results := [.lit (.bool true)], args := [d1, d2, d3, d4] }
  | _ => none }
def blockDoesRow : OpenClaim := { program := "ytnklnjghecmihaa", sum := "5022bc3413f515790367ca283cb7f391003a85b22aee23c94f1d24c270b872f3", func := "catchment/catchmentlaw10.BlockDoes", spec := "blockDoes", inPlace := ["internal/bytealg.abigen_runtime_cmpstring", "internal/abi.NoEscape", "slices.overlaps[catchment/api.Entry]"], unfollowed := true, recurses := true, apart := false }
def BlockDoesSaid : Prop := blockDoesRow.holds Try.pinned (OpenSpec.ofChange blockDoesSpec)

/-- ITS FALSE NEIGHBOUR: 'it returns false'. Refute it at one input. -/
def blockDoesWrong : ChangeSpec := { name := "blockDoes", fn := fun _ => fun
  | [d1, d2, d3, d4] => { results := [.lit (.bool false)], args := [d1, d2, d3, d4] }
  | _ => none }
def BlockDoesWrongFalsely : Prop := blockDoesRow.holds Try.pinned (OpenSpec.ofChange blockDoesWrong)

/-- 'catchmentlaw10.BlockOwn': WHATEVER THE INPUT: true; the input reads as it did. -/
def blockOwnSpec : ChangeSpec := { name := "blockOwn", fn := fun _ => fun
  | [d1, d2, d3] => { results := [.lit (.bool true)], args := [d1, d2, d3] }
  | _ => none }
def blockOwnRow : OpenClaim := { program := "ytnklnjghecmihaa", sum := "5022bc3413f515790367ca283cb7f391003a85b22aee23c94f1d24c270b872f3", func := "catchment/catchmentlaw10.BlockOwn", spec := "blockOwn", inPlace := ["internal/bytealg.abigen_runtime_cmpstring", "internal/abi.NoEscape", "slices.overlaps[catchment/api.Entry]"], unfollowed := true, recurses := true, apart := false }
def BlockOwnSaid : Prop := blockOwnRow.holds Try.pinned (OpenSpec.ofChange blockOwnSpec)

/-- ITS FALSE NEIGHBOUR: 'it returns false'. Refute it at one input. -/
def blockOwnWrong : ChangeSpec := { name := "blockOwn", fn := fun _ => fun
  | [d1, d2, d3] => { results := [.lit (.bool false)], args := [d1, d2, d3] }
  | _ => none }
def BlockOwnWrongFalsely : Prop := blockOwnRow.holds Try.pinned (OpenSpec.ofChange blockOwnWrong)

/- THE SECOND FORM. 'bulk': how many values and letters a reading holds, each counted each time it is reached (what is shared counts as often as it is met; a slice's spare places count too). A statement '..UptoSaid' is the law's where the arguments, and the package variables that the reading takes, are together of bulk at most 1048576: NARROWER than '..Said'. Prove '..Said' where nothing that the law and all that it calls make is longer than what came in: it says more and counts as full. Else prove '..UptoSaid'. A law counts once. -/
mutual
def uptoBulk {H : Type} : DataW H → Nat
  | .lit (.string bytes) => bytes.length + 1
  | .lit _ => 1
  | .nil => 1
  | .ptr d => uptoBulk d + 1
  | .slice elems spare => uptoBulkAll elems + uptoBulkAll spare + 1
  | .agg parts => uptoBulkAll parts + 1
  | .iface _ d => uptoBulk d + 1
  | .map entries => uptoBulkEntries entries + 1
  | .held _ => 1
def uptoBulkAll {H : Type} : List (DataW H) → Nat
  | [] => 0
  | d :: r => uptoBulk d + uptoBulkAll r
def uptoBulkEntries {H : Type} : List (Lit × DataW H) → Nat
  | [] => 0
  | x :: r => uptoBulkEntry x + uptoBulkEntries r
def uptoBulkEntry {H : Type} : Lit × DataW H → Nat
  | (.string bytes, d) => bytes.length + uptoBulk d + 1
  | (_, d) => uptoBulk d + 1
 end
def uptoSmall : (H : Type) → List (DataW H) → Bool := fun _ ds => decide (uptoBulkAll ds ≤ 1048576)
def OpenSpec.upto (s : _root_.Go.ChangeSpec) : _root_.Go.OpenSpec := { _root_.Go.OpenSpec.ofChange s with cond := some uptoSmall }

/-- 'catchmentlaw10.BlockPacks', WHERE WHAT IT READS IS OF BULK AT MOST 1048576: true; the input reads as it did. -/
def blockPacksUptoRow : OpenClaim := { program := "ytnklnjghecmihaa", sum := "5022bc3413f515790367ca283cb7f391003a85b22aee23c94f1d24c270b872f3", func := "catchment/catchmentlaw10.BlockPacks", spec := "blockPacks", inPlace := ["internal/bytealg.abigen_runtime_cmpstring", "internal/abi.NoEscape"], unfollowed := true, recurses := true, apart := false, narrowed := true }
def BlockPacksUptoSaid : Prop := blockPacksUptoRow.holds Try.pinned (OpenSpec.upto blockPacksSpec)

/-- 'catchmentlaw10.BlockBack', WHERE WHAT IT READS IS OF BULK AT MOST 1048576: true; the input reads as it did. -/
def blockBackUptoRow : OpenClaim := { program := "ytnklnjghecmihaa", sum := "5022bc3413f515790367ca283cb7f391003a85b22aee23c94f1d24c270b872f3", func := "catchment/catchmentlaw10.BlockBack", spec := "blockBack", inPlace := ["internal/bytealg.abigen_runtime_cmpstring", "internal/abi.NoEscape"], unfollowed := true, recurses := true, apart := false, narrowed := true }
def BlockBackUptoSaid : Prop := blockBackUptoRow.holds Try.pinned (OpenSpec.upto blockBackSpec)

/-- 'catchmentlaw10.BlockHalves', WHERE WHAT IT READS IS OF BULK AT MOST 1048576: true; the input reads as it did. -/
def blockHalvesUptoRow : OpenClaim := { program := "ytnklnjghecmihaa", sum := "5022bc3413f515790367ca283cb7f391003a85b22aee23c94f1d24c270b872f3", func := "catchment/catchmentlaw10.BlockHalves", spec := "blockHalves", inPlace := ["internal/bytealg.abigen_runtime_cmpstring", "internal/abi.NoEscape"], unfollowed := true, recurses := true, apart := false, narrowed := true }
def BlockHalvesUptoSaid : Prop := blockHalvesUptoRow.holds Try.pinned (OpenSpec.upto blockHalvesSpec)

/-- 'catchmentlaw12.BufferAdds', WHERE WHAT IT READS IS OF BULK AT MOST 1048576: true; the input reads as it did. -/
def bufferAddsUptoRow : OpenClaim := { program := "ytnklnjghecmihaa", sum := "5022bc3413f515790367ca283cb7f391003a85b22aee23c94f1d24c270b872f3", func := "catchment/catchmentlaw12.BufferAdds", spec := "bufferAdds", unfollowed := true, recurses := true, apart := false, narrowed := true }
def BufferAddsUptoSaid : Prop := bufferAddsUptoRow.holds Try.pinned (OpenSpec.upto bufferAddsSpec)

/-- 'catchmentlaw12.BufferTakes', WHERE WHAT IT READS IS OF BULK AT MOST 1048576: true; the input reads as it did. -/
def bufferTakesUptoRow : OpenClaim := { program := "ytnklnjghecmihaa", sum := "5022bc3413f515790367ca283cb7f391003a85b22aee23c94f1d24c270b872f3", func := "catchment/catchmentlaw12.BufferTakes", spec := "bufferTakes", unfollowed := true, recurses := true, apart := false, narrowed := true }
def BufferTakesUptoSaid : Prop := bufferTakesUptoRow.holds Try.pinned (OpenSpec.upto bufferTakesSpec)

/-- 'catchmentlaw16.ShapeSizes', WHERE WHAT IT READS IS OF BULK AT MOST 1048576: true; the input reads as it did. -/
def shapeSizesUptoRow : OpenClaim := { program := "ytnklnjghecmihaa", sum := "5022bc3413f515790367ca283cb7f391003a85b22aee23c94f1d24c270b872f3", func := "catchment/catchmentlaw16.ShapeSizes", spec := "shapeSizes", unfollowed := true, recurses := true, apart := false, narrowed := true }
def ShapeSizesUptoSaid : Prop := shapeSizesUptoRow.holds Try.pinned (OpenSpec.upto shapeSizesSpec)

/-- 'catchmentlaw16.ShapeAges', WHERE WHAT IT READS IS OF BULK AT MOST 1048576: true; the input reads as it did. -/
def shapeAgesUptoRow : OpenClaim := { program := "ytnklnjghecmihaa", sum := "5022bc3413f515790367ca283cb7f391003a85b22aee23c94f1d24c270b872f3", func := "catchment/catchmentlaw16.ShapeAges", spec := "shapeAges", unfollowed := true, recurses := true, apart := false, narrowed := true }
def ShapeAgesUptoSaid : Prop := shapeAgesUptoRow.holds Try.pinned (OpenSpec.upto shapeAgesSpec)

/-- 'catchmentlaw12.BufferParts', WHERE WHAT IT READS IS OF BULK AT MOST 1048576: true; the input reads as it did. -/
def bufferPartsUptoRow : OpenClaim := { program := "ytnklnjghecmihaa", sum := "5022bc3413f515790367ca283cb7f391003a85b22aee23c94f1d24c270b872f3", func := "catchment/catchmentlaw12.BufferParts", spec := "bufferParts", unfollowed := true, recurses := true, apart := false, narrowed := true }
def BufferPartsUptoSaid : Prop := bufferPartsUptoRow.holds Try.pinned (OpenSpec.upto bufferPartsSpec)

/-- 'catchmentlaw12.BufferLooks', WHERE WHAT IT READS IS OF BULK AT MOST 1048576: true; the input reads as it did. -/
def bufferLooksUptoRow : OpenClaim := { program := "ytnklnjghecmihaa", sum := "5022bc3413f515790367ca283cb7f391003a85b22aee23c94f1d24c270b872f3", func := "catchment/catchmentlaw12.BufferLooks", spec := "bufferLooks", unfollowed := true, recurses := true, apart := false, narrowed := true }
def BufferLooksUptoSaid : Prop := bufferLooksUptoRow.holds Try.pinned (OpenSpec.upto bufferLooksSpec)

/-- 'catchmentlaw12.BufferSpans', WHERE WHAT IT READS IS OF BULK AT MOST 1048576: true; the input reads as it did. -/
def bufferSpansUptoRow : OpenClaim := { program := "ytnklnjghecmihaa", sum := "5022bc3413f515790367ca283cb7f391003a85b22aee23c94f1d24c270b872f3", func := "catchment/catchmentlaw12.BufferSpans", spec := "bufferSpans", unfollowed := true, recurses := true, apart := false, narrowed := true }
def BufferSpansUptoSaid : Prop := bufferSpansUptoRow.holds Try.pinned (OpenSpec.upto bufferSpansSpec)

/-- 'catchmentlaw10.BlockDoes', WHERE WHAT IT READS IS OF BULK AT MOST 1048576: true; the input reads as it did. -/
def blockDoesUptoRow : OpenClaim := { program := "ytnklnjghecmihaa", sum := "5022bc3413f515790367ca283cb7f391003a85b22aee23c94f1d24c270b872f3", func := "catchment/catchmentlaw10.BlockDoes", spec := "blockDoes", inPlace := ["internal/bytealg.abigen_runtime_cmpstring", "internal/abi.NoEscape", "slices.overlaps[catchment/api.Entry]"], unfollowed := true, recurses := true, apart := false, narrowed := true }
def BlockDoesUptoSaid : Prop := blockDoesUptoRow.holds Try.pinned (OpenSpec.upto blockDoesSpec)

/-- 'catchmentlaw10.BlockOwn', WHERE WHAT IT READS IS OF BULK AT MOST 1048576: true; the input reads as it did. -/
def blockOwnUptoRow : OpenClaim := { program := "ytnklnjghecmihaa", sum := "5022bc3413f515790367ca283cb7f391003a85b22aee23c94f1d24c270b872f3", func := "catchment/catchmentlaw10.BlockOwn", spec := "blockOwn", inPlace := ["internal/bytealg.abigen_runtime_cmpstring", "internal/abi.NoEscape", "slices.overlaps[catchment/api.Entry]"], unfollowed := true, recurses := true, apart := false, narrowed := true }
def BlockOwnUptoSaid : Prop := blockOwnUptoRow.holds Try.pinned (OpenSpec.upto blockOwnSpec)

end Rows
end Go.Proofs.Ytnklnjghecmihaa
