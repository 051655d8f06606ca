/- What the functions of the packages word and catchmentref03 answer, as plain functions: numbers of eight bytes, and what becomes of them. No condition. -/
import Derived.Test.YtnklnjghecmihaaH6x16
import Derived.Test.YtnklnjghecmihaaH6V0
import Derived.Laws.BitsLemmas
set_option linter.unusedVariables false
set_option linter.unusedSimpArgs false
namespace Go.Proofs.Ytnklnjghecmihaa.WordSpec
open Go.RowKit Go.Proofs.Ytnklnjghecmihaa.H6 Go.Proofs.YtnklnjghecmihaaW.PrintWords Go.Proofs.YtnklnjghecmihaaW.PrintLast Go.Proofs.YtnklnjghecmihaaW.PrintMore Go.Proofs.YtnklnjghecmihaaW.Mine Go.Proofs.YtnklnjghecmihaaW.Ord
/-- a byte -/
def by_ (n : Int) : UInt8 := UInt8.ofNat n.toNat
theorem strOf_toList (l : List Int) : (strOfNums l).toList = l.map by_ := by
  rw [toList_data]
  rfl
theorem by_toNat {n : Int} (h0 : 0 ≤ n) (h1 : n ≤ 255) : ((by_ n).toNat : Int) = n := by
  unfold by_
  rw [UInt8.toNat_ofNat']
  omega
theorem strOf_cons (a : Int) (l : List Int) : strOfNums [a] ++ strOfNums l = strOfNums (a :: l) := by
  apply bytes_ext
  rw [toList_append, strOf_toList, strOf_toList, strOf_toList]
  rfl
theorem strOf_size (l : List Int) : (strOfNums l).size = l.length := by
  rw [← size_toList, strOf_toList, List.length_map]
theorem strOf_nil : strOfNums [] = (⟨#[]⟩ : ByteArray) := rfl
end Go.Proofs.Ytnklnjghecmihaa.WordSpec
