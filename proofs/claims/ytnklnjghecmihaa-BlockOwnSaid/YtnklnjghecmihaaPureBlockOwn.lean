/- For all entries, an entry and a range the law BlockOwn answers true: no condition beyond what a Go value of these types can be. -/
import Derived.Test.YtnklnjghecmihaaH5x53
import Derived.Test.YtnklnjghecmihaaH5SBlkBase
set_option linter.unusedVariables false
set_option linter.unusedSimpArgs false
namespace Go.Proofs.Ytnklnjghecmihaa.Pure
open Go.RowKit Go.Proofs.Ytnklnjghecmihaa.H5 Go.Proofs.Ytnklnjghecmihaa.BlkBase Go.Proofs.YtnklnjghecmihaaW.PrintWords Go.Proofs.YtnklnjghecmihaaW.PrintLast Go.Proofs.YtnklnjghecmihaaW.PrintMore Go.Proofs.YtnklnjghecmihaaW.Mine Go.Proofs.YtnklnjghecmihaaW.Ord
theorem olive_90 : catchmentlaw10_live.f 90 = some true := by decide +kernel
theorem olive_ge {k : Nat} (h : 90 ≤ k) : catchmentlaw10_live.f k = some true := by
  obtain ⟨m, rfl⟩ : ∃ m, k = 90 + m := ⟨k - 90, by omega⟩
  induction m with
  | zero => exact olive_90
  | succ m ih => exact catchmentlaw10_live.mono (90 + m) _ (ih (by omega))
theorem BlockOwn : catchmentlaw10_BlockOwn.Pure := by
  intro l x r _ _ _
  refine ⟨1000, ?_⟩
  unfold catchmentlaw10_BlockOwn.f
  have hl : (l.take (mn (l.length : Int) 40).toNat).length ≤ 40 := by
    rw [List.length_take]
    unfold mn
    split <;> omega
  generalize l.take (mn (l.length : Int) 40).toNat = p at hl
  obtain ⟨b, hb, hs⟩ := rises_loop (l := p) (by omega) (p.length - 1) 1 1000 rfl (by omega) (by omega)
  have hb2 : catchmentref05_Rises.f 1000 p = some b := hb
  rw [hb2, Option.bind_some]
  cases b with
  | false => rw [if_neg (by decide), olive_ge (by omega)]
  | true =>
    have hsrt : Srt p := srt_of (hs rfl)
    obtain ⟨lo, o, hi, P⟩ := parts hsrt x.f0
    have hw : wrap64 ((p.length : Int) / 2) = ((p.length / 2 : Nat) : Int) := by rw [wrap64_id (by omega) (by omega)]; omega
    have hh : block_Halves.f p = some (p.take (p.length / 2), p.drop (p.length / 2)) := by
      unfold block_Halves.f
      rw [hw, if_pos (by omega), if_pos (by omega), Int.toNat_natCast, clone_f _ (by rw [List.length_take]; omega), Option.bind_some, clone_f _ (by rw [List.length_drop]; omega), Option.bind_some]
    have ha : block_Apply.f 1000 p 0 0 ⟨#[]⟩ ⟨#[]⟩ ⟨#[]⟩ 0 = some p := by
      unfold block_Apply.f
      rw [if_neg (by decide), show msg_IsPoint.f 0 0 ⟨#[]⟩ ⟨#[]⟩ ⟨#[]⟩ 0 = some false from rfl, Option.bind_some, if_neg (by decide), clone_f p (by omega), Option.bind_some]
    rw [if_pos rfl, hh, Option.bind_some, put_f P (by omega) 1000 (by omega), Option.bind_some, drop_f P (by omega) 1000 (by omega), Option.bind_some, cut_f hsrt (by omega) _ _ 1000 (by omega), Option.bind_some, ha, Option.bind_some, olive_ge (by omega), Option.bind_some, if_pos rfl, same_f p (by omega) 1000 (by omega)]
end Go.Proofs.Ytnklnjghecmihaa.Pure
