/-
  No cell of these rows narrows 'for every input' (looked for: loops, veiled, ifaces, maps, wideKeys, modest, calm, conditions, laid).
  DERIVED. THE GIVEN ROWS OF THIS SEAT. 11 by the template 'for every input the law returns true; each argument reads behind the call as it read before'; 0 by the template 'total and deterministic' (their statements: YtdlhiadekgnieaaTotals.lean).
  GIVEN WITH THE SEED: the statements are not yours to turn. If you find one false, say at which input.
  Laid BY PROGRAM, IN A SANDBOX (cutbox-rows.mjs): the forced cells as the released guide's own fill.sh prints them over the translation d61fa13f25b6c4be… (all of the seat's roots in one cut). By AI agents, Wed Nov 11 2026. No macro, syntax, notation, axiom, sorry.
-/
import Derived.Test.YtdlhiadekgnieaaChecked
import GoSem.Claim
import GoSem.ClaimJoined
import GoSem.ClaimMapViews
import Derived.JoinedTies
import Derived.KernelRfl
namespace Go.Proofs.Ytdlhiadekgnieaa
/- THE CELL 'sum', in the pinned program and in every row, IS THE sha256 OF THE DUMP (.gsa) THAT YtdlhiadekgnieaaProg.lean LOADS. Nothing in Lean hashes anything: it is a label: what it is worth is what the hold of that sum in a sandbox is worth. -/
noncomputable def Try.pinned : Pinned := { name := "ytdlhiadekgnieaa", sum := "d61fa13f25b6c4be9ebcbe1a93c153d0354b7bb0e91ba83bca6dfc9f7cc065c2", checked := Try.checked }
namespace Rows
def none {H : Type} : Left H := { results := [], args := [] }

/-- 'catchmentlaw02.KeyBetween': WHATEVER THE INPUT: true; the input reads as it did. -/
def keyBetweenSpec : ChangeSpec := { name := "keyBetween", fn := fun _ => fun
  | [d1, d2] => { results := [.lit (.bool true)], args := [d1, d2] }
  | _ => none }
def keyBetweenRow : OpenClaim := { program := "ytdlhiadekgnieaa", sum := "d61fa13f25b6c4be9ebcbe1a93c153d0354b7bb0e91ba83bca6dfc9f7cc065c2", func := "catchment/catchmentlaw02.KeyBetween", spec := "keyBetween", inPlace := ["internal/bytealg.abigen_runtime_cmpstring"], apart := false }
def KeyBetweenSaid : Prop := keyBetweenRow.holds Try.pinned (OpenSpec.ofChange keyBetweenSpec)

/-- ITS FALSE NEIGHBOUR: 'it returns false'. Refute it at one input. -/
def keyBetweenWrong : ChangeSpec := { name := "keyBetween", fn := fun _ => fun
  | [d1, d2] => { results := [.lit (.bool false)], args := [d1, d2] }
  | _ => none }
def KeyBetweenWrongFalsely : Prop := keyBetweenRow.holds Try.pinned (OpenSpec.ofChange keyBetweenWrong)

/-- 'catchmentlaw02.KeyAfter': WHATEVER THE INPUT: true; the input reads as it did. -/
def keyAfterSpec : ChangeSpec := { name := "keyAfter", fn := fun _ => fun
  | [d1, d2] => { results := [.lit (.bool true)], args := [d1, d2] }
  | _ => none }
def keyAfterRow : OpenClaim := { program := "ytdlhiadekgnieaa", sum := "d61fa13f25b6c4be9ebcbe1a93c153d0354b7bb0e91ba83bca6dfc9f7cc065c2", func := "catchment/catchmentlaw02.KeyAfter", spec := "keyAfter", inPlace := ["internal/bytealg.abigen_runtime_cmpstring"], apart := false }
def KeyAfterSaid : Prop := keyAfterRow.holds Try.pinned (OpenSpec.ofChange keyAfterSpec)

/-- ITS FALSE NEIGHBOUR: 'it returns false'. Refute it at one input. -/
def keyAfterWrong : ChangeSpec := { name := "keyAfter", fn := fun _ => fun
  | [d1, d2] => { results := [.lit (.bool false)], args := [d1, d2] }
  | _ => none }
def KeyAfterWrongFalsely : Prop := keyAfterRow.holds Try.pinned (OpenSpec.ofChange keyAfterWrong)

/-- 'catchmentlaw07.VlockReads': WHATEVER THE INPUT: true; the input reads as it did. -/
def vlockReadsSpec : ChangeSpec := { name := "vlockReads", fn := fun _ => fun
  | [d1, d2] => { results := [.lit (.bool true)], args := [d1, d2] }
  | _ => none }
def vlockReadsRow : OpenClaim := { program := "ytdlhiadekgnieaa", sum := "d61fa13f25b6c4be9ebcbe1a93c153d0354b7bb0e91ba83bca6dfc9f7cc065c2", func := "catchment/catchmentlaw07.VlockReads", spec := "vlockReads", unfollowed := true, recurses := true, apart := false }
def VlockReadsSaid : Prop := vlockReadsRow.holds Try.pinned (OpenSpec.ofChange vlockReadsSpec)

/-- ITS FALSE NEIGHBOUR: 'it returns false'. Refute it at one input. -/
def vlockReadsWrong : ChangeSpec := { name := "vlockReads", fn := fun _ => fun
  | [d1, d2] => { results := [.lit (.bool false)], args := [d1, d2] }
  | _ => none }
def VlockReadsWrongFalsely : Prop := vlockReadsRow.holds Try.pinned (OpenSpec.ofChange vlockReadsWrong)

/-- 'catchmentlaw02.KeyMeets': WHATEVER THE INPUT: true; the input reads as it did. -/
def keyMeetsSpec : ChangeSpec := { name := "keyMeets", fn := fun _ => fun
  | [d1, d2, d3] => { results := [.lit (.bool true)], args := [d1, d2, d3] }
  | _ => none }
def keyMeetsRow : OpenClaim := { program := "ytdlhiadekgnieaa", sum := "d61fa13f25b6c4be9ebcbe1a93c153d0354b7bb0e91ba83bca6dfc9f7cc065c2", func := "catchment/catchmentlaw02.KeyMeets", spec := "keyMeets", inPlace := ["internal/bytealg.abigen_runtime_cmpstring"], apart := false }
def KeyMeetsSaid : Prop := keyMeetsRow.holds Try.pinned (OpenSpec.ofChange keyMeetsSpec)

/-- ITS FALSE NEIGHBOUR: 'it returns false'. Refute it at one input. -/
def keyMeetsWrong : ChangeSpec := { name := "keyMeets", fn := fun _ => fun
  | [d1, d2, d3] => { results := [.lit (.bool false)], args := [d1, d2, d3] }
  | _ => none }
def KeyMeetsWrongFalsely : Prop := keyMeetsRow.holds Try.pinned (OpenSpec.ofChange keyMeetsWrong)

/-- 'catchmentlaw02.KeyEnds': WHATEVER THE INPUT: true; the input reads as it did. -/
def keyEndsSpec : ChangeSpec := { name := "keyEnds", fn := fun _ => fun
  | [d1, d2, d3] => { results := [.lit (.bool true)], args := [d1, d2, d3] }
  | _ => none }
def keyEndsRow : OpenClaim := { program := "ytdlhiadekgnieaa", sum := "d61fa13f25b6c4be9ebcbe1a93c153d0354b7bb0e91ba83bca6dfc9f7cc065c2", func := "catchment/catchmentlaw02.KeyEnds", spec := "keyEnds", inPlace := ["internal/bytealg.abigen_runtime_cmpstring"], apart := false }
def KeyEndsSaid : Prop := keyEndsRow.holds Try.pinned (OpenSpec.ofChange keyEndsSpec)

/-- ITS FALSE NEIGHBOUR: 'it returns false'. Refute it at one input. -/
def keyEndsWrong : ChangeSpec := { name := "keyEnds", fn := fun _ => fun
  | [d1, d2, d3] => { results := [.lit (.bool false)], args := [d1, d2, d3] }
  | _ => none }
def KeyEndsWrongFalsely : Prop := keyEndsRow.holds Try.pinned (OpenSpec.ofChange keyEndsWrong)

/-- 'catchmentlaw02.KeyRanges': WHATEVER THE INPUT: true; the input reads as it did. -/
def keyRangesSpec : ChangeSpec := { name := "keyRanges", fn := fun _ => fun
  | [d1, d2, d3] => { results := [.lit (.bool true)], args := [d1, d2, d3] }
  | _ => none }
def keyRangesRow : OpenClaim := { program := "ytdlhiadekgnieaa", sum := "d61fa13f25b6c4be9ebcbe1a93c153d0354b7bb0e91ba83bca6dfc9f7cc065c2", func := "catchment/catchmentlaw02.KeyRanges", spec := "keyRanges", inPlace := ["internal/bytealg.abigen_runtime_cmpstring"], apart := false }
def KeyRangesSaid : Prop := keyRangesRow.holds Try.pinned (OpenSpec.ofChange keyRangesSpec)

/-- ITS FALSE NEIGHBOUR: 'it returns false'. Refute it at one input. -/
def keyRangesWrong : ChangeSpec := { name := "keyRanges", fn := fun _ => fun
  | [d1, d2, d3] => { results := [.lit (.bool false)], args := [d1, d2, d3] }
  | _ => none }
def KeyRangesWrongFalsely : Prop := keyRangesRow.holds Try.pinned (OpenSpec.ofChange keyRangesWrong)

/-- 'catchmentlaw02.KeyPieces': WHATEVER THE INPUT: true; the input reads as it did. -/
def keyPiecesSpec : ChangeSpec := { name := "keyPieces", fn := fun _ => fun
  | [d1, d2, d3] => { results := [.lit (.bool true)], args := [d1, d2, d3] }
  | _ => none }
def keyPiecesRow : OpenClaim := { program := "ytdlhiadekgnieaa", sum := "d61fa13f25b6c4be9ebcbe1a93c153d0354b7bb0e91ba83bca6dfc9f7cc065c2", func := "catchment/catchmentlaw02.KeyPieces", spec := "keyPieces", inPlace := ["internal/bytealg.abigen_runtime_cmpstring"], apart := false }
def KeyPiecesSaid : Prop := keyPiecesRow.holds Try.pinned (OpenSpec.ofChange keyPiecesSpec)

/-- ITS FALSE NEIGHBOUR: 'it returns false'. Refute it at one input. -/
def keyPiecesWrong : ChangeSpec := { name := "keyPieces", fn := fun _ => fun
  | [d1, d2, d3] => { results := [.lit (.bool false)], args := [d1, d2, d3] }
  | _ => none }
def KeyPiecesWrongFalsely : Prop := keyPiecesRow.holds Try.pinned (OpenSpec.ofChange keyPiecesWrong)

/-- 'catchmentlaw07.VlockSaw': WHATEVER THE INPUT: true; the input reads as it did. -/
def vlockSawSpec : ChangeSpec := { name := "vlockSaw", fn := fun _ => fun
  | [d1, d2] => { results := [.lit (.bool true)], args := [d1, d2] }
  | _ => none }
def vlockSawRow : OpenClaim := { program := "ytdlhiadekgnieaa", sum := "d61fa13f25b6c4be9ebcbe1a93c153d0354b7bb0e91ba83bca6dfc9f7cc065c2", func := "catchment/catchmentlaw07.VlockSaw", spec := "vlockSaw", unfollowed := true, recurses := true, apart := false }
def VlockSawSaid : Prop := vlockSawRow.holds Try.pinned (OpenSpec.ofChange vlockSawSpec)

/-- ITS FALSE NEIGHBOUR: 'it returns false'. Refute it at one input. -/
def vlockSawWrong : ChangeSpec := { name := "vlockSaw", fn := fun _ => fun
  | [d1, d2] => { results := [.lit (.bool false)], args := [d1, d2] }
  | _ => none }
def VlockSawWrongFalsely : Prop := vlockSawRow.holds Try.pinned (OpenSpec.ofChange vlockSawWrong)

/-- 'catchmentlaw07.VlockDoes': WHATEVER THE INPUT: true; the input reads as it did. -/
def vlockDoesSpec : ChangeSpec := { name := "vlockDoes", fn := fun _ => fun
  | [d1, d2] => { results := [.lit (.bool true)], args := [d1, d2] }
  | _ => none }
def vlockDoesRow : OpenClaim := { program := "ytdlhiadekgnieaa", sum := "d61fa13f25b6c4be9ebcbe1a93c153d0354b7bb0e91ba83bca6dfc9f7cc065c2", func := "catchment/catchmentlaw07.VlockDoes", spec := "vlockDoes", unfollowed := true, recurses := true, apart := false }
def VlockDoesSaid : Prop := vlockDoesRow.holds Try.pinned (OpenSpec.ofChange vlockDoesSpec)

/-- ITS FALSE NEIGHBOUR: 'it returns false'. Refute it at one input. -/
def vlockDoesWrong : ChangeSpec := { name := "vlockDoes", fn := fun _ => fun
  | [d1, d2] => { results := [.lit (.bool false)], args := [d1, d2] }
  | _ => none }
def VlockDoesWrongFalsely : Prop := vlockDoesRow.holds Try.pinned (OpenSpec.ofChange vlockDoesWrong)

/-- 'catchmentlaw07.VlockAlone': WHATEVER THE INPUT: true; the input reads as it did. -/
def vlockAloneSpec : ChangeSpec := { name := "vlockAlone", fn := fun _ => fun
  | [d] => { results := [.lit (.bool true)], args := [d] }
  | _ => none }
def vlockAloneRow : OpenClaim := { program := "ytdlhiadekgnieaa", sum := "d61fa13f25b6c4be9ebcbe1a93c153d0354b7bb0e91ba83bca6dfc9f7cc065c2", func := "catchment/catchmentlaw07.VlockAlone", spec := "vlockAlone", unfollowed := true, recurses := true, apart := false }
def VlockAloneSaid : Prop := vlockAloneRow.holds Try.pinned (OpenSpec.ofChange vlockAloneSpec)

/-- ITS FALSE NEIGHBOUR: 'it returns false'. Refute it at one input. -/
def vlockAloneWrong : ChangeSpec := { name := "vlockAlone", fn := fun _ => fun
  | [d] => { results := [.lit (.bool false)], args := [d] }
  | _ => none }
def VlockAloneWrongFalsely : Prop := vlockAloneRow.holds Try.pinned (OpenSpec.ofChange vlockAloneWrong)

/-- 'catchmentlaw07.VlockPacks': WHATEVER THE INPUT: true; the input reads as it did. -/
def vlockPacksSpec : ChangeSpec := { name := "vlockPacks", fn := fun _ => fun
  | [d1, d2] => { results := [.lit (.bool true)], args := [d1, d2] }
  | _ => none }
def vlockPacksRow : OpenClaim := { program := "ytdlhiadekgnieaa", sum := "d61fa13f25b6c4be9ebcbe1a93c153d0354b7bb0e91ba83bca6dfc9f7cc065c2", func := "catchment/catchmentlaw07.VlockPacks", spec := "vlockPacks", unfollowed := true, recurses := true, apart := false }
def VlockPacksSaid : Prop := vlockPacksRow.holds Try.pinned (OpenSpec.ofChange vlockPacksSpec)

/-- ITS FALSE NEIGHBOUR: 'it returns false'. Refute it at one input. -/
def vlockPacksWrong : ChangeSpec := { name := "vlockPacks", fn := fun _ => fun
  | [d1, d2] => { results := [.lit (.bool false)], args := [d1, d2] }
  | _ => none }
def VlockPacksWrongFalsely : Prop := vlockPacksRow.holds Try.pinned (OpenSpec.ofChange vlockPacksWrong)

/- THE SECOND FORM. 'bulk': how many values and letters a reading holds, each counted each time it is reached (what is shared counts as often as it is met; a slice's spare places count too). A statement '..UptoSaid' is the law's where the arguments, and the package variables that the reading takes, are together of bulk at most 1048576: NARROWER than '..Said'. Prove '..Said' where nothing that the law and all that it calls make is longer than what came in: it says more and counts as full. Else prove '..UptoSaid'. A law counts once. -/
mutual
def uptoBulk {H : Type} : DataW H → Nat
  | .lit (.string bytes) => bytes.length + 1
  | .lit _ => 1
  | .nil => 1
  | .ptr d => uptoBulk d + 1
  | .slice elems spare => uptoBulkAll elems + uptoBulkAll spare + 1
  | .agg parts => uptoBulkAll parts + 1
  | .iface _ d => uptoBulk d + 1
  | .map entries => uptoBulkEntries entries + 1
  | .held _ => 1
def uptoBulkAll {H : Type} : List (DataW H) → Nat
  | [] => 0
  | d :: r => uptoBulk d + uptoBulkAll r
def uptoBulkEntries {H : Type} : List (Lit × DataW H) → Nat
  | [] => 0
  | x :: r => uptoBulkEntry x + uptoBulkEntries r
def uptoBulkEntry {H : Type} : Lit × DataW H → Nat
  | (.string bytes, d) => bytes.length + uptoBulk d + 1
  | (_, d) => uptoBulk d + 1
 end
def uptoSmall : (H : Type) → List (DataW H) → Bool := fun _ ds => decide (uptoBulkAll ds ≤ 1048576)
def OpenSpec.upto (s : _root_.Go.ChangeSpec) : _root_.Go.OpenSpec := { _root_.Go.OpenSpec.ofChange s with cond := some uptoSmall }

/-- 'catchmentlaw02.KeyBetween', WHERE WHAT IT READS IS OF BULK AT MOST 1048576: true; the input reads as it did. -/
def keyBetweenUptoRow : OpenClaim := { program := "ytdlhiadekgnieaa", sum := "d61fa13f25b6c4be9ebcbe1a93c153d0354b7bb0e91ba83bca6dfc9f7cc065c2", func := "catchment/catchmentlaw02.KeyBetween", spec := "keyBetween", inPlace := ["internal/bytealg.abigen_runtime_cmpstring"], apart := false, narrowed := true }
def KeyBetweenUptoSaid : Prop := keyBetweenUptoRow.holds Try.pinned (OpenSpec.upto keyBetweenSpec)

/-- 'catchmentlaw02.KeyAfter', WHERE WHAT IT READS IS OF BULK AT MOST 1048576: true; the input reads as it did. -/
def keyAfterUptoRow : OpenClaim := { program := "ytdlhiadekgnieaa", sum := "d61fa13f25b6c4be9ebcbe1a93c153d0354b7bb0e91ba83bca6dfc9f7cc065c2", func := "catchment/catchmentlaw02.KeyAfter", spec := "keyAfter", inPlace := ["internal/bytealg.abigen_runtime_cmpstring"], apart := false, narrowed := true }
def KeyAfterUptoSaid : Prop := keyAfterUptoRow.holds Try.pinned (OpenSpec.upto keyAfterSpec)

/-- 'catchmentlaw07.VlockReads', WHERE WHAT IT READS IS OF BULK AT MOST 1048576: true; the input reads as it did. -/
def vlockReadsUptoRow : OpenClaim := { program := "ytdlhiadekgnieaa", sum := "d61fa13f25b6c4be9ebcbe1a93c153d0354b7bb0e91ba83bca6dfc9f7cc065c2", func := "catchment/catchmentlaw07.VlockReads", spec := "vlockReads", unfollowed := true, recurses := true, apart := false, narrowed := true }
def VlockReadsUptoSaid : Prop := vlockReadsUptoRow.holds Try.pinned (OpenSpec.upto vlockReadsSpec)

/-- 'catchmentlaw02.KeyMeets', WHERE WHAT IT READS IS OF BULK AT MOST 1048576: true; the input reads as it did. -/
def keyMeetsUptoRow : OpenClaim := { program := "ytdlhiadekgnieaa", sum := "d61fa13f25b6c4be9ebcbe1a93c153d0354b7bb0e91ba83bca6dfc9f7cc065c2", func := "catchment/catchmentlaw02.KeyMeets", spec := "keyMeets", inPlace := ["internal/bytealg.abigen_runtime_cmpstring"], apart := false, narrowed := true }
def KeyMeetsUptoSaid : Prop := keyMeetsUptoRow.holds Try.pinned (OpenSpec.upto keyMeetsSpec)

/-- 'catchmentlaw02.KeyEnds', WHERE WHAT IT READS IS OF BULK AT MOST 1048576: true; the input reads as it did. -/
def keyEndsUptoRow : OpenClaim := { program := "ytdlhiadekgnieaa", sum := "d61fa13f25b6c4be9ebcbe1a93c153d0354b7bb0e91ba83bca6dfc9f7cc065c2", func := "catchment/catchmentlaw02.KeyEnds", spec := "keyEnds", inPlace := ["internal/bytealg.abigen_runtime_cmpstring"], apart := false, narrowed := true }
def KeyEndsUptoSaid : Prop := keyEndsUptoRow.holds Try.pinned (OpenSpec.upto keyEndsSpec)

/-- 'catchmentlaw02.KeyRanges', WHERE WHAT IT READS IS OF BULK AT MOST 1048576: true; the input reads as it did. -/
def keyRangesUptoRow : OpenClaim := { program := "ytdlhiadekgnieaa", sum := "d61fa13f25b6c4be9ebcbe1a93c153d0354b7bb0e91ba83bca6dfc9f7cc065c2", func := "catchment/catchmentlaw02.KeyRanges", spec := "keyRanges", inPlace := ["internal/bytealg.abigen_runtime_cmpstring"], apart := false, narrowed := true }
def KeyRangesUptoSaid : Prop := keyRangesUptoRow.holds Try.pinned (OpenSpec.upto keyRangesSpec)

/-- 'catchmentlaw02.KeyPieces', WHERE WHAT IT READS IS OF BULK AT MOST 1048576: true; the input reads as it did. -/
def keyPiecesUptoRow : OpenClaim := { program := "ytdlhiadekgnieaa", sum := "d61fa13f25b6c4be9ebcbe1a93c153d0354b7bb0e91ba83bca6dfc9f7cc065c2", func := "catchment/catchmentlaw02.KeyPieces", spec := "keyPieces", inPlace := ["internal/bytealg.abigen_runtime_cmpstring"], apart := false, narrowed := true }
def KeyPiecesUptoSaid : Prop := keyPiecesUptoRow.holds Try.pinned (OpenSpec.upto keyPiecesSpec)

/-- 'catchmentlaw07.VlockSaw', WHERE WHAT IT READS IS OF BULK AT MOST 1048576: true; the input reads as it did. -/
def vlockSawUptoRow : OpenClaim := { program := "ytdlhiadekgnieaa", sum := "d61fa13f25b6c4be9ebcbe1a93c153d0354b7bb0e91ba83bca6dfc9f7cc065c2", func := "catchment/catchmentlaw07.VlockSaw", spec := "vlockSaw", unfollowed := true, recurses := true, apart := false, narrowed := true }
def VlockSawUptoSaid : Prop := vlockSawUptoRow.holds Try.pinned (OpenSpec.upto vlockSawSpec)

/-- 'catchmentlaw07.VlockDoes', WHERE WHAT IT READS IS OF BULK AT MOST 1048576: true; the input reads as it did. -/
def vlockDoesUptoRow : OpenClaim := { program := "ytdlhiadekgnieaa", sum := "d61fa13f25b6c4be9ebcbe1a93c153d0354b7bb0e91ba83bca6dfc9f7cc065c2", func := "catchment/catchmentlaw07.VlockDoes", spec := "vlockDoes", unfollowed := true, recurses := true, apart := false, narrowed := true }
def VlockDoesUptoSaid : Prop := vlockDoesUptoRow.holds Try.pinned (OpenSpec.upto vlockDoesSpec)

/-- 'catchmentlaw07.VlockAlone', WHERE WHAT IT READS IS OF BULK AT MOST 1048576: true; the input reads as it did. -/
def vlockAloneUptoRow : OpenClaim := { program := "ytdlhiadekgnieaa", sum := "d61fa13f25b6c4be9ebcbe1a93c153d0354b7bb0e91ba83bca6dfc9f7cc065c2", func := "catchment/catchmentlaw07.VlockAlone", spec := "vlockAlone", unfollowed := true, recurses := true, apart := false, narrowed := true }
def VlockAloneUptoSaid : Prop := vlockAloneUptoRow.holds Try.pinned (OpenSpec.upto vlockAloneSpec)

/-- 'catchmentlaw07.VlockPacks', WHERE WHAT IT READS IS OF BULK AT MOST 1048576: true; the input reads as it did. -/
def vlockPacksUptoRow : OpenClaim := { program := "ytdlhiadekgnieaa", sum := "d61fa13f25b6c4be9ebcbe1a93c153d0354b7bb0e91ba83bca6dfc9f7cc065c2", func := "catchment/catchmentlaw07.VlockPacks", spec := "vlockPacks", unfollowed := true, recurses := true, apart := false, narrowed := true }
def VlockPacksUptoSaid : Prop := vlockPacksUptoRow.holds Try.pinned (OpenSpec.upto vlockPacksSpec)

end Rows
end Go.Proofs.Ytdlhiadekgnieaa
