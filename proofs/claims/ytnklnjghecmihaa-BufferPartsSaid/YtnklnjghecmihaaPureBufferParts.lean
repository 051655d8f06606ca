/- For all messages, ranges, keys and values the law BufferParts answers true: no condition beyond what a Go value of these types can be. -/
import Derived.Test.YtnklnjghecmihaaL2x64
import Derived.Test.YtnklnjghecmihaaL2SBufPartSpec
set_option linter.unusedVariables false
set_option linter.unusedSimpArgs false
namespace Go.Proofs.Ytnklnjghecmihaa.Pure
open Go.RowKit Go.Proofs.Ytnklnjghecmihaa.L2 Go.Proofs.Ytnklnjghecmihaa.SortSpec Go.Proofs.Ytnklnjghecmihaa.BufSpec Go.Proofs.Ytnklnjghecmihaa.BufTake Go.Proofs.Ytnklnjghecmihaa.BufPart Go.Proofs.YtnklnjghecmihaaW.PrintWords Go.Proofs.YtnklnjghecmihaaW.PrintLast Go.Proofs.YtnklnjghecmihaaW.PrintMore Go.Proofs.YtnklnjghecmihaaW.Mine Go.Proofs.YtnklnjghecmihaaW.Ord
theorem plive_90 : catchmentlaw12_live.f 90 = some true := by decide +kernel
theorem plive_ge {k : Nat} (h : 90 ≤ k) : catchmentlaw12_live.f k = some true := by
 obtain ⟨m, rfl⟩ : ∃ m, k = 90 + m := ⟨k - 90, by omega⟩
 induction m with
 | zero => exact plive_90
 | succ m ih => exact catchmentlaw12_live.mono (90 + m) _ (ih (by omega))
theorem refHolds_f (a b q : ByteArray) : catchmentref02_Holds.f a b q = some (hold a.toList b.toList q.toList) := by
 unfold catchmentref02_Holds.f hold ahd
 by_cases h : Op.bytesLess q.toList a.toList = true
 ·rw [if_pos h, h]; rfl
 ·rw [if_neg h, Bool.eq_false_iff.2 h]
  by_cases h2 : b.toList = []
  ·rw [if_pos h2, h2]; rfl
  ·rw [if_neg h2]
   have : b.toList.isEmpty = false := by simpa using h2
   rw [this]; rfl
theorem BufferParts : catchmentlaw12_BufferParts.Pure := by
 intro l r s v is hl0 hr0 hs0 hv0
 have hm : 0 ≤ mn (l.length : Int) 30 ∧ mn (l.length : Int) 30 ≤ (l.length : Int) ∧ mn (l.length : Int) 30 ≤ 30 := by
  unfold mn
  split <;> omega
 obtain ⟨n, hn⟩ : ∃ n, mn (l.length : Int) 30 = n := ⟨_, rfl⟩
 rw [hn] at hm
 obtain ⟨p, hp⟩ : ∃ p, l.take n.toNat = p := ⟨_, rfl⟩
 have hlp : p.length ≤ 30 := by rw [← hp, List.length_take]; omega
 have hmem : ∀ m ∈ p, m ∈ l := fun m h => by rw [← hp] at h; exact List.mem_of_mem_take h
 have hf : ∀ m ∈ p, fits m := by
  intro m h
  have := (hl0.2.2 m (hmem m h)).2.2.1
  unfold fits
  omega
 have hok : ∀ m ∈ p, okd m := by
  intro m h
  have := (hl0.2.2 m (hmem m h)).2.2.2.2.2
  simpa [okd, Lit.wf, IntKind.min, IntKind.max, IntKind.signed, IntKind.bits] using this
 have hfp : Fits p := by
  intro i hi
  unfold M rd_T46
  rw [Int.toNat_natCast, List.getD_eq_getElem?_getD, List.getElem?_eq_getElem hi, Option.getD_some]
  exact hf _ (List.getElem_mem _)
 cases hrt : rt p with
 | false =>
  refine ⟨1000, ?_⟩
  unfold catchmentlaw12_BufferParts.f
  rw [hn, if_pos hm.1, if_pos hm.2.1, hp, Option.bind_some, refBuf_f p (by omega) hfp _ (by omega), hrt, Option.bind_some, if_neg (by decide), plive_ge (by omega)]
  rfl
 | true =>
  obtain ⟨ho, hpw⟩ := rt_nx p hrt
  have hk : ∀ m ∈ p, kd m = true := fun m hm => (own_ahd (ho m hm)).1
  obtain ⟨R, a1, a2, a3, K, a4⟩ := take_f r.f0 r.f1 p (by omega) hk hf
  have okI : ∀ m ∈ p.filterMap (clip r.f0 r.f1), okd m := by
   intro x hx
   obtain ⟨m, hm, hc⟩ := List.mem_filterMap.1 hx
   obtain ⟨_, _, _, e5, _⟩ := clip_some (q := s) (hk m hm) hc
   unfold okd
   rw [e5]
   exact hok m hm
  have okR : ∀ m ∈ R, okd m := by
   intro x hx
   obtain ⟨m, hm, hx2⟩ := List.mem_flatMap.1 (St.mem StbSpec.sw a2 x hx)
   obtain ⟨_, _, _, e5, _⟩ := rest_mem (q := s) hx2
   unfold okd
   rw [e5]
   exact hok m hm
  have lenI : (p.filterMap (clip r.f0 r.f1)).length ≤ 30 := Nat.le_trans (List.length_filterMap_le _ _) hlp
  -- the sizes of keys of what is made
  have fit2 : ∀ b : ByteArray, b.size ≤ 140737488351232 → b.size + 1 ≤ 9223372036854775807 := fun b h => by omega
  have fclip : ∀ m ∈ p, ∀ x, clip r.f0 r.f1 m = some x → x.f2.size ≤ 140737488351232 ∧ x.f3.size ≤ 140737488351232 := by
   intro m hm x hc
   have hm0 := hl0.2.2 m (hmem m hm)
   have h2 := hm0.2.2.1
   have h3 := hm0.2.2.2.1
   have hr1 := hr0.1
   have hr2 := hr0.2
   unfold clip at hc
   split at hc
   ·obtain rfl := Option.some.inj hc
    exact ⟨h2, h3⟩
   ·split at hc
    ·obtain rfl := Option.some.inj hc
     exact meet_size h2 h3 hr1 hr2
    ·cases hc
  have fI : ∀ m ∈ p.filterMap (clip r.f0 r.f1), fits m := by
   intro x hx
   obtain ⟨m, hm, hc⟩ := List.mem_filterMap.1 hx
   exact fit2 _ (fclip m hm x hc).1
  have fR : ∀ m ∈ R, fits m := by
   intro x hx
   obtain ⟨m, hm, hx2⟩ := List.mem_flatMap.1 (St.mem StbSpec.sw a2 x hx)
   unfold rest at hx2
   cases hc : clip r.f0 r.f1 m with
   | none =>
    rw [hc] at hx2
    obtain rfl := List.mem_singleton.1 hx2
    exact hf _ hm
   | some y =>
    rw [hc] at hx2
    dsimp only at hx2
    obtain ⟨y2, y3⟩ := fclip m hm y hc
    split at hx2
    ·rcases List.mem_append.1 hx2 with h | h
     ·split at h
      ·obtain rfl := List.mem_singleton.1 h
       exact (hf m hm : m.f2.size + 1 ≤ _)
      ·cases h
     ·split at h
      ·obtain rfl := List.mem_singleton.1 h
       exact fit2 _ y3
      ·cases h
    ·cases hx2
  refine ⟨K + 1000, ?_⟩
  unfold catchmentlaw12_BufferParts.f
  rw [hn, if_pos hm.1, if_pos hm.2.1, hp, Option.bind_some, refBuf_f p (by omega) hfp _ (by omega), hrt, Option.bind_some, if_pos rfl, a4 _ (by omega), Option.bind_some]
  rw [value_f p (by omega) hok s v is _ (by omega), Option.bind_some, value_f _ (by omega) okI s v is _ (by omega), Option.bind_some, value_f R (by omega) okR s v is _ (by omega), Option.bind_some, refRight_f, Option.bind_some]
  have hj : ∀ t : Bool, t = inR r.f0 r.f1 s → catchmentlaw12_BufferParts.j0 (K + 1000) s (p.filterMap (clip r.f0 r.f1)) R (vl s p (if is = true then v else ⟨#[]⟩, is)).1 (vl s p (if is = true then v else ⟨#[]⟩, is)).2 (vl s (p.filterMap (clip r.f0 r.f1)) (if is = true then v else ⟨#[]⟩, is)).1 (vl s (p.filterMap (clip r.f0 r.f1)) (if is = true then v else ⟨#[]⟩, is)).2 (vl s R (if is = true then v else ⟨#[]⟩, is)).1 (vl s R (if is = true then v else ⟨#[]⟩, is)).2 t = some true := by
   intro t ht
   rw [show K + 1000 = (K + 999) + 1 from rfl, catchmentlaw12_BufferParts.j0]
   cases t with
   | true =>
    rw [if_pos rfl, plive_ge (by omega), Option.bind_some, if_pos rfl, in_vl ht.symm p hk, if_pos rfl, if_pos (by simp), at_f R (by omega) fR s _ (by omega), out_no ht.symm p R a2, Option.bind_some]
    rfl
   | false =>
    rw [if_neg (by decide), plive_ge (by omega), Option.bind_some, if_pos rfl, out_vl ht.symm p R hrt a1 a2, if_pos rfl, if_pos (by simp), at_f _ (by omega) fI s _ (by omega), in_no ht.symm hk, Option.bind_some]
    rfl
  cases ha : ahd r.f0.toList r.f1.toList with
  | true =>
   rw [if_pos rfl, refHolds_f, Option.bind_some]
   refine hj _ ?_
   unfold inR
   rw [ha, Bool.true_and]
  | false =>
   rw [if_neg (by decide)]
   refine hj _ ?_
   unfold inR
   rw [ha, Bool.false_and]
end Go.Proofs.Ytnklnjghecmihaa.Pure
