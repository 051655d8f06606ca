/-
  No cell of these rows narrows 'for every input' (looked for: loops, veiled, ifaces, maps, wideKeys, modest, calm, conditions, laid).
  DERIVED. THE GIVEN ROWS OF THIS SEAT. 10 by the template 'for every input the law returns true; each argument reads behind the call as it read before'; 0 by the template 'total and deterministic' (their statements: YtpfikmchimlneaaTotals.lean).
  GIVEN WITH THE SEED: the statements are not yours to turn. If you find one false, say at which input.
  Laid BY PROGRAM, IN A SANDBOX (cutbox-rows.mjs): the forced cells as the released guide's own fill.sh prints them over the translation 35f9dcdd83eccbae… (all of the seat's roots in one cut). By AI agents, Wed Nov 11 2026. No macro, syntax, notation, axiom, sorry.
-/
import Derived.Test.YtpfikmchimlneaaChecked
import GoSem.Claim
import GoSem.ClaimJoined
import GoSem.ClaimMapViews
import Derived.JoinedTies
import Derived.KernelRfl
namespace Go.Proofs.Ytpfikmchimlneaa
/- THE CELL 'sum', in the pinned program and in every row, IS THE sha256 OF THE DUMP (.gsa) THAT YtpfikmchimlneaaProg.lean LOADS. Nothing in Lean hashes anything: it is a label: what it is worth is what the hold of that sum in a sandbox is worth. -/
noncomputable def Try.pinned : Pinned := { name := "ytpfikmchimlneaa", sum := "35f9dcdd83eccbaeb3521157c17297a0fc9597c4cc473e216ad8c2e26d52bd0a", checked := Try.checked }
namespace Rows
def none {H : Type} : Left H := { results := [], args := [] }

/-- 'catchmentlaw08.ArenaTexts': WHATEVER THE INPUT: true; the input reads as it did. -/
def arenaTextsSpec : ChangeSpec := { name := "arenaTexts", fn := fun _ => fun
  | [d] => { results := [.lit (.bool true)], args := [d] }
  | _ => none }
def arenaTextsRow : OpenClaim := { program := "ytpfikmchimlneaa", sum := "35f9dcdd83eccbaeb3521157c17297a0fc9597c4cc473e216ad8c2e26d52bd0a", func := "catchment/catchmentlaw08.ArenaTexts", spec := "arenaTexts", apart := false }
def ArenaTextsSaid : Prop := arenaTextsRow.holds Try.pinned (OpenSpec.ofChange arenaTextsSpec)

/-- ITS FALSE NEIGHBOUR: 'it returns false'. Refute it at one input. -/
def arenaTextsWrong : ChangeSpec := { name := "arenaTexts", fn := fun _ => fun
  | [d] => { results := [.lit (.bool false)], args := [d] }
  | _ => none }
def ArenaTextsWrongFalsely : Prop := arenaTextsRow.holds Try.pinned (OpenSpec.ofChange arenaTextsWrong)

/-- 'catchmentlaw08.ArenaPlays': WHATEVER THE INPUT: true; the input reads as it did. -/
def arenaPlaysSpec : ChangeSpec := { name := "arenaPlays", fn := fun _ => fun
  | [d1, d2] => { results := [.lit (.bool true)], args := [d1, d2] }
  | _ => none }
def arenaPlaysRow : OpenClaim := { program := "ytpfikmchimlneaa", sum := "35f9dcdd83eccbaeb3521157c17297a0fc9597c4cc473e216ad8c2e26d52bd0a", func := "catchment/catchmentlaw08.ArenaPlays", spec := "arenaPlays", unfollowed := true, recurses := true, apart := false }
def ArenaPlaysSaid : Prop := arenaPlaysRow.holds Try.pinned (OpenSpec.ofChange arenaPlaysSpec)

/-- ITS FALSE NEIGHBOUR: 'it returns false'. Refute it at one input. -/
def arenaPlaysWrong : ChangeSpec := { name := "arenaPlays", fn := fun _ => fun
  | [d1, d2] => { results := [.lit (.bool false)], args := [d1, d2] }
  | _ => none }
def ArenaPlaysWrongFalsely : Prop := arenaPlaysRow.holds Try.pinned (OpenSpec.ofChange arenaPlaysWrong)

/-- 'catchmentlaw08.ArenaOnce': WHATEVER THE INPUT: true; the input reads as it did. -/
def arenaOnceSpec : ChangeSpec := { name := "arenaOnce", fn := fun _ => fun
  | [d] => { results := [.lit (.bool true)], args := [d] }
  | _ => none }
def arenaOnceRow : OpenClaim := { program := "ytpfikmchimlneaa", sum := "35f9dcdd83eccbaeb3521157c17297a0fc9597c4cc473e216ad8c2e26d52bd0a", func := "catchment/catchmentlaw08.ArenaOnce", spec := "arenaOnce", unfollowed := true, recurses := true, apart := false }
def ArenaOnceSaid : Prop := arenaOnceRow.holds Try.pinned (OpenSpec.ofChange arenaOnceSpec)

/-- ITS FALSE NEIGHBOUR: 'it returns false'. Refute it at one input. -/
def arenaOnceWrong : ChangeSpec := { name := "arenaOnce", fn := fun _ => fun
  | [d] => { results := [.lit (.bool false)], args := [d] }
  | _ => none }
def ArenaOnceWrongFalsely : Prop := arenaOnceRow.holds Try.pinned (OpenSpec.ofChange arenaOnceWrong)

/-- 'catchmentlaw08.ArenaForks': WHATEVER THE INPUT: true; the input reads as it did. -/
def arenaForksSpec : ChangeSpec := { name := "arenaForks", fn := fun _ => fun
  | [d1, d2] => { results := [.lit (.bool true)], args := [d1, d2] }
  | _ => none }
def arenaForksRow : OpenClaim := { program := "ytpfikmchimlneaa", sum := "35f9dcdd83eccbaeb3521157c17297a0fc9597c4cc473e216ad8c2e26d52bd0a", func := "catchment/catchmentlaw08.ArenaForks", spec := "arenaForks", unfollowed := true, recurses := true, apart := false }
def ArenaForksSaid : Prop := arenaForksRow.holds Try.pinned (OpenSpec.ofChange arenaForksSpec)

/-- ITS FALSE NEIGHBOUR: 'it returns false'. Refute it at one input. -/
def arenaForksWrong : ChangeSpec := { name := "arenaForks", fn := fun _ => fun
  | [d1, d2] => { results := [.lit (.bool false)], args := [d1, d2] }
  | _ => none }
def ArenaForksWrongFalsely : Prop := arenaForksRow.holds Try.pinned (OpenSpec.ofChange arenaForksWrong)

/-- 'catchmentlaw11.LeafFolds': WHATEVER THE INPUT: true; the input reads as it did. -/
def leafFoldsSpec : ChangeSpec := { name := "leafFolds", fn := fun _ => fun
  | [d1, d2, d3] => { results := [.lit (.bool true)], args := [d1, d2, d3] }
  | _ => none }
def leafFoldsRow : OpenClaim := { program := "ytpfikmchimlneaa", sum := "35f9dcdd83eccbaeb3521157c17297a0fc9597c4cc473e216ad8c2e26d52bd0a", func := "catchment/catchmentlaw11.LeafFolds", spec := "leafFolds", inPlace := ["internal/bytealg.abigen_runtime_cmpstring", "slices.overlaps[catchment/api.Entry]", "slices.overlaps[[]catchment/api.Entry]"], unfollowed := true, recurses := true, apart := false }
def LeafFoldsSaid : Prop := leafFoldsRow.holds Try.pinned (OpenSpec.ofChange leafFoldsSpec)

/-- ITS FALSE NEIGHBOUR: 'it returns false'. Refute it at one input. -/
def leafFoldsWrong : ChangeSpec := { name := "leafFolds", fn := fun _ => fun
  | [d1, d2, d3] => { results := [.lit (.bool false)], args := [d1, d2, d3] }
  | _ => none }
def LeafFoldsWrongFalsely : Prop := leafFoldsRow.holds Try.pinned (OpenSpec.ofChange leafFoldsWrong)

/-- 'catchmentlaw11.LeafKeeps': WHATEVER THE INPUT: true; the input reads as it did. -/
def leafKeepsSpec : ChangeSpec := { name := "leafKeeps", fn := fun _ => fun
  | [d1, d2, d3] => { results := [.lit (.bool true)], args := [d1, d2, d3] }
  | _ => none }
def leafKeepsRow : OpenClaim := { program := "ytpfikmchimlneaa", sum := "35f9dcdd83eccbaeb3521157c17297a0fc9597c4cc473e216ad8c2e26d52bd0a", func := "catchment/catchmentlaw11.LeafKeeps", spec := "leafKeeps", inPlace := ["internal/bytealg.abigen_runtime_cmpstring", "slices.overlaps[catchment/api.Entry]", "slices.overlaps[[]catchment/api.Entry]"], unfollowed := true, recurses := true, apart := false }
def LeafKeepsSaid : Prop := leafKeepsRow.holds Try.pinned (OpenSpec.ofChange leafKeepsSpec)

/-- ITS FALSE NEIGHBOUR: 'it returns false'. Refute it at one input. -/
def leafKeepsWrong : ChangeSpec := { name := "leafKeeps", fn := fun _ => fun
  | [d1, d2, d3] => { results := [.lit (.bool false)], args := [d1, d2, d3] }
  | _ => none }
def LeafKeepsWrongFalsely : Prop := leafKeepsRow.holds Try.pinned (OpenSpec.ofChange leafKeepsWrong)

/-- 'catchmentlaw11.LeafLooks': WHATEVER THE INPUT: true; the input reads as it did. -/
def leafLooksSpec : ChangeSpec := { name := "leafLooks", fn := fun _ => fun
  | [d1, d2, d3] => { results := [.lit (.bool true)], args := [d1, d2, d3] }
  | _ => none }
def leafLooksRow : OpenClaim := { program := "ytpfikmchimlneaa", sum := "35f9dcdd83eccbaeb3521157c17297a0fc9597c4cc473e216ad8c2e26d52bd0a", func := "catchment/catchmentlaw11.LeafLooks", spec := "leafLooks", inPlace := ["internal/bytealg.abigen_runtime_cmpstring", "slices.overlaps[catchment/api.Entry]", "slices.overlaps[[]catchment/api.Entry]"], unfollowed := true, recurses := true, apart := false }
def LeafLooksSaid : Prop := leafLooksRow.holds Try.pinned (OpenSpec.ofChange leafLooksSpec)

/-- ITS FALSE NEIGHBOUR: 'it returns false'. Refute it at one input. -/
def leafLooksWrong : ChangeSpec := { name := "leafLooks", fn := fun _ => fun
  | [d1, d2, d3] => { results := [.lit (.bool false)], args := [d1, d2, d3] }
  | _ => none }
def LeafLooksWrongFalsely : Prop := leafLooksRow.holds Try.pinned (OpenSpec.ofChange leafLooksWrong)

/-- 'catchmentlaw11.LeafMakes': WHATEVER THE INPUT: true; the input reads as it did. -/
def leafMakesSpec : ChangeSpec := { name := "leafMakes", fn := fun _ => fun
  | [d1, d2] => { results := [.lit (.bool true)], args := [d1, d2] }
  | _ => none }
def leafMakesRow : OpenClaim := { program := "ytpfikmchimlneaa", sum := "35f9dcdd83eccbaeb3521157c17297a0fc9597c4cc473e216ad8c2e26d52bd0a", func := "catchment/catchmentlaw11.LeafMakes", spec := "leafMakes", inPlace := ["internal/bytealg.abigen_runtime_cmpstring", "slices.overlaps[catchment/api.Entry]", "slices.overlaps[[]catchment/api.Entry]"], unfollowed := true, recurses := true, apart := false }
def LeafMakesSaid : Prop := leafMakesRow.holds Try.pinned (OpenSpec.ofChange leafMakesSpec)

/-- ITS FALSE NEIGHBOUR: 'it returns false'. Refute it at one input. -/
def leafMakesWrong : ChangeSpec := { name := "leafMakes", fn := fun _ => fun
  | [d1, d2] => { results := [.lit (.bool false)], args := [d1, d2] }
  | _ => none }
def LeafMakesWrongFalsely : Prop := leafMakesRow.holds Try.pinned (OpenSpec.ofChange leafMakesWrong)

/-- 'catchmentlaw11.LeafHalves': WHATEVER THE INPUT: true; the input reads as it did. -/
def leafHalvesSpec : ChangeSpec := { name := "leafHalves", fn := fun _ => fun
  | [d1, d2] => { results := [.lit (.bool true)], args := [d1, d2] }
  | _ => none }
def leafHalvesRow : OpenClaim := { program := "ytpfikmchimlneaa", sum := "35f9dcdd83eccbaeb3521157c17297a0fc9597c4cc473e216ad8c2e26d52bd0a", func := "catchment/catchmentlaw11.LeafHalves", spec := "leafHalves", inPlace := ["internal/bytealg.abigen_runtime_cmpstring", "slices.overlaps[catchment/api.Entry]", "slices.overlaps[[]catchment/api.Entry]"], unfollowed := true, recurses := true, apart := false }
def LeafHalvesSaid : Prop := leafHalvesRow.holds Try.pinned (OpenSpec.ofChange leafHalvesSpec)

/-- ITS FALSE NEIGHBOUR: 'it returns false'. Refute it at one input. -/
def leafHalvesWrong : ChangeSpec := { name := "leafHalves", fn := fun _ => fun
  | [d1, d2] => { results := [.lit (.bool false)], args := [d1, d2] }
  | _ => none }
def LeafHalvesWrongFalsely : Prop := leafHalvesRow.holds Try.pinned (OpenSpec.ofChange leafHalvesWrong)

/-- 'catchmentlaw11.LeafOwn': WHATEVER THE INPUT: true; the input reads as it did. -/
def leafOwnSpec : ChangeSpec := { name := "leafOwn", fn := fun _ => fun
  | [d1, d2, d3] => { results := [.lit (.bool true)], args := [d1, d2, d3] }
  | _ => none }
def leafOwnRow : OpenClaim := { program := "ytpfikmchimlneaa", sum := "35f9dcdd83eccbaeb3521157c17297a0fc9597c4cc473e216ad8c2e26d52bd0a", func := "catchment/catchmentlaw11.LeafOwn", spec := "leafOwn", inPlace := ["internal/bytealg.abigen_runtime_cmpstring", "slices.overlaps[catchment/api.Entry]", "slices.overlaps[[]catchment/api.Entry]"], unfollowed := true, recurses := true, apart := false }
def LeafOwnSaid : Prop := leafOwnRow.holds Try.pinned (OpenSpec.ofChange leafOwnSpec)

/-- ITS FALSE NEIGHBOUR: 'it returns false'. Refute it at one input. -/
def leafOwnWrong : ChangeSpec := { name := "leafOwn", fn := fun _ => fun
  | [d1, d2, d3] => { results := [.lit (.bool false)], args := [d1, d2, d3] }
  | _ => none }
def LeafOwnWrongFalsely : Prop := leafOwnRow.holds Try.pinned (OpenSpec.ofChange leafOwnWrong)

/- THE SECOND FORM. 'bulk': how many values and letters a reading holds, each counted each time it is reached (what is shared counts as often as it is met; a slice's spare places count too). A statement '..UptoSaid' is the law's where the arguments, and the package variables that the reading takes, are together of bulk at most 1048576: NARROWER than '..Said'. Prove '..Said' where nothing that the law and all that it calls make is longer than what came in: it says more and counts as full. Else prove '..UptoSaid'. A law counts once. -/
mutual
def uptoBulk {H : Type} : DataW H → Nat
  | .lit (.string bytes) => bytes.length + 1
  | .lit _ => 1
  | .nil => 1
  | .ptr d => uptoBulk d + 1
  | .slice elems spare => uptoBulkAll elems + uptoBulkAll spare + 1
  | .agg parts => uptoBulkAll parts + 1
  | .iface _ d => uptoBulk d + 1
  | .map entries => uptoBulkEntries entries + 1
  | .held _ => 1
def uptoBulkAll {H : Type} : List (DataW H) → Nat
  | [] => 0
  | d :: r => uptoBulk d + uptoBulkAll r
def uptoBulkEntries {H : Type} : List (Lit × DataW H) → Nat
  | [] => 0
  | x :: r => uptoBulkEntry x + uptoBulkEntries r
def uptoBulkEntry {H : Type} : Lit × DataW H → Nat
  | (.string bytes, d) => bytes.length + uptoBulk d + 1
  | (_, d) => uptoBulk d + 1
 end
def uptoSmall : (H : Type) → List (DataW H) → Bool := fun _ ds => decide (uptoBulkAll ds ≤ 1048576)
def OpenSpec.upto (s : _root_.Go.ChangeSpec) : _root_.Go.OpenSpec := { _root_.Go.OpenSpec.ofChange s with cond := some uptoSmall }

/-- 'catchmentlaw08.ArenaTexts', WHERE WHAT IT READS IS OF BULK AT MOST 1048576: true; the input reads as it did. -/
def arenaTextsUptoRow : OpenClaim := { program := "ytpfikmchimlneaa", sum := "35f9dcdd83eccbaeb3521157c17297a0fc9597c4cc473e216ad8c2e26d52bd0a", func := "catchment/catchmentlaw08.ArenaTexts", spec := "arenaTexts", apart := false, narrowed := true }
def ArenaTextsUptoSaid : Prop := arenaTextsUptoRow.holds Try.pinned (OpenSpec.upto arenaTextsSpec)

/-- 'catchmentlaw08.ArenaPlays', WHERE WHAT IT READS IS OF BULK AT MOST 1048576: true; the input reads as it did. -/
def arenaPlaysUptoRow : OpenClaim := { program := "ytpfikmchimlneaa", sum := "35f9dcdd83eccbaeb3521157c17297a0fc9597c4cc473e216ad8c2e26d52bd0a", func := "catchment/catchmentlaw08.ArenaPlays", spec := "arenaPlays", unfollowed := true, recurses := true, apart := false, narrowed := true }
def ArenaPlaysUptoSaid : Prop := arenaPlaysUptoRow.holds Try.pinned (OpenSpec.upto arenaPlaysSpec)

/-- 'catchmentlaw08.ArenaOnce', WHERE WHAT IT READS IS OF BULK AT MOST 1048576: true; the input reads as it did. -/
def arenaOnceUptoRow : OpenClaim := { program := "ytpfikmchimlneaa", sum := "35f9dcdd83eccbaeb3521157c17297a0fc9597c4cc473e216ad8c2e26d52bd0a", func := "catchment/catchmentlaw08.ArenaOnce", spec := "arenaOnce", unfollowed := true, recurses := true, apart := false, narrowed := true }
def ArenaOnceUptoSaid : Prop := arenaOnceUptoRow.holds Try.pinned (OpenSpec.upto arenaOnceSpec)

/-- 'catchmentlaw08.ArenaForks', WHERE WHAT IT READS IS OF BULK AT MOST 1048576: true; the input reads as it did. -/
def arenaForksUptoRow : OpenClaim := { program := "ytpfikmchimlneaa", sum := "35f9dcdd83eccbaeb3521157c17297a0fc9597c4cc473e216ad8c2e26d52bd0a", func := "catchment/catchmentlaw08.ArenaForks", spec := "arenaForks", unfollowed := true, recurses := true, apart := false, narrowed := true }
def ArenaForksUptoSaid : Prop := arenaForksUptoRow.holds Try.pinned (OpenSpec.upto arenaForksSpec)

/-- 'catchmentlaw11.LeafFolds', WHERE WHAT IT READS IS OF BULK AT MOST 1048576: true; the input reads as it did. -/
def leafFoldsUptoRow : OpenClaim := { program := "ytpfikmchimlneaa", sum := "35f9dcdd83eccbaeb3521157c17297a0fc9597c4cc473e216ad8c2e26d52bd0a", func := "catchment/catchmentlaw11.LeafFolds", spec := "leafFolds", inPlace := ["internal/bytealg.abigen_runtime_cmpstring", "slices.overlaps[catchment/api.Entry]", "slices.overlaps[[]catchment/api.Entry]"], unfollowed := true, recurses := true, apart := false, narrowed := true }
def LeafFoldsUptoSaid : Prop := leafFoldsUptoRow.holds Try.pinned (OpenSpec.upto leafFoldsSpec)

/-- 'catchmentlaw11.LeafKeeps', WHERE WHAT IT READS IS OF BULK AT MOST 1048576: true; the input reads as it did. -/
def leafKeepsUptoRow : OpenClaim := { program := "ytpfikmchimlneaa", sum := "35f9dcdd83eccbaeb3521157c17297a0fc9597c4cc473e216ad8c2e26d52bd0a", func := "catchment/catchmentlaw11.LeafKeeps", spec := "leafKeeps", inPlace := ["internal/bytealg.abigen_runtime_cmpstring", "slices.overlaps[catchment/api.Entry]", "slices.overlaps[[]catchment/api.Entry]"], unfollowed := true, recurses := true, apart := false, narrowed := true }
def LeafKeepsUptoSaid : Prop := leafKeepsUptoRow.holds Try.pinned (OpenSpec.upto leafKeepsSpec)

/-- 'catchmentlaw11.LeafLooks', WHERE WHAT IT READS IS OF BULK AT MOST 1048576: true; the input reads as it did. -/
def leafLooksUptoRow : OpenClaim := { program := "ytpfikmchimlneaa", sum := "35f9dcdd83eccbaeb3521157c17297a0fc9597c4cc473e216ad8c2e26d52bd0a", func := "catchment/catchmentlaw11.LeafLooks", spec := "leafLooks", inPlace := ["internal/bytealg.abigen_runtime_cmpstring", "slices.overlaps[catchment/api.Entry]", "slices.overlaps[[]catchment/api.Entry]"], unfollowed := true, recurses := true, apart := false, narrowed := true }
def LeafLooksUptoSaid : Prop := leafLooksUptoRow.holds Try.pinned (OpenSpec.upto leafLooksSpec)

/-- 'catchmentlaw11.LeafMakes', WHERE WHAT IT READS IS OF BULK AT MOST 1048576: true; the input reads as it did. -/
def leafMakesUptoRow : OpenClaim := { program := "ytpfikmchimlneaa", sum := "35f9dcdd83eccbaeb3521157c17297a0fc9597c4cc473e216ad8c2e26d52bd0a", func := "catchment/catchmentlaw11.LeafMakes", spec := "leafMakes", inPlace := ["internal/bytealg.abigen_runtime_cmpstring", "slices.overlaps[catchment/api.Entry]", "slices.overlaps[[]catchment/api.Entry]"], unfollowed := true, recurses := true, apart := false, narrowed := true }
def LeafMakesUptoSaid : Prop := leafMakesUptoRow.holds Try.pinned (OpenSpec.upto leafMakesSpec)

/-- 'catchmentlaw11.LeafHalves', WHERE WHAT IT READS IS OF BULK AT MOST 1048576: true; the input reads as it did. -/
def leafHalvesUptoRow : OpenClaim := { program := "ytpfikmchimlneaa", sum := "35f9dcdd83eccbaeb3521157c17297a0fc9597c4cc473e216ad8c2e26d52bd0a", func := "catchment/catchmentlaw11.LeafHalves", spec := "leafHalves", inPlace := ["internal/bytealg.abigen_runtime_cmpstring", "slices.overlaps[catchment/api.Entry]", "slices.overlaps[[]catchment/api.Entry]"], unfollowed := true, recurses := true, apart := false, narrowed := true }
def LeafHalvesUptoSaid : Prop := leafHalvesUptoRow.holds Try.pinned (OpenSpec.upto leafHalvesSpec)

/-- 'catchmentlaw11.LeafOwn', WHERE WHAT IT READS IS OF BULK AT MOST 1048576: true; the input reads as it did. -/
def leafOwnUptoRow : OpenClaim := { program := "ytpfikmchimlneaa", sum := "35f9dcdd83eccbaeb3521157c17297a0fc9597c4cc473e216ad8c2e26d52bd0a", func := "catchment/catchmentlaw11.LeafOwn", spec := "leafOwn", inPlace := ["internal/bytealg.abigen_runtime_cmpstring", "slices.overlaps[catchment/api.Entry]", "slices.overlaps[[]catchment/api.Entry]"], unfollowed := true, recurses := true, apart := false, narrowed := true }
def LeafOwnUptoSaid : Prop := leafOwnUptoRow.holds Try.pinned (OpenSpec.upto leafOwnSpec)

end Rows
end Go.Proofs.Ytpfikmchimlneaa
