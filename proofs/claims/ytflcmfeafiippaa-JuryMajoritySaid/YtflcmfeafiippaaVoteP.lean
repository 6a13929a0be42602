/-
  Plain laws on the voices that count.
-/
import Derived.Test.YtflcmfeafiippaaVoteS
set_option linter.all false
namespace Go.Proofs.Ytflcmfeafiippaa

theorem fold_prefix (L : List Int) (u : Int) : ∀ (vs acc : List V), acc <+: vs.foldl (cstep L u) acc
  | [], acc => List.prefix_refl _
  | v :: vs, acc => by
    rw [List.foldl_cons]
    refine List.IsPrefix.trans ?_ (fold_prefix L u vs _)
    unfold cstep
    split
    · exact List.prefix_refl _
    · exact List.prefix_append _ _
theorem cnt_prefix (L : List Int) (u : Int) (vs : List V) (k : Nat) : cnt L u (vs.take k) <+: cnt L u vs := by
  have : cnt L u vs = (vs.drop k).foldl (cstep L u) (cnt L u (vs.take k)) := by
    unfold cnt
    rw [← List.foldl_append, List.take_append_drop]
  rw [this]
  exact fold_prefix _ _ _ _
theorem cnt_here {L : List Int} {u : Int} {vs : List V} {k : Nat} (hk : k < vs.length) (h : skips L u (cnt L u (vs.take k)) vs[k] = false) : ∃ hl : (cnt L u (vs.take k)).length < (cnt L u vs).length, (cnt L u vs)[(cnt L u (vs.take k)).length] = vs[k] := by
  have h1 := cnt_prefix L u vs (k + 1)
  have e : cnt L u (vs.take (k + 1)) = cnt L u (vs.take k) ++ [vs[k]] := by simp [cnt_succ hk, cstep, h]
  rw [e] at h1
  obtain ⟨r, hr⟩ := h1
  refine ⟨by rw [← hr]; simp, ?_⟩
  simp [← hr]
theorem cnt_idem (L : List Int) (u : Int) (vs : List V) : cnt L u (cnt L u vs) = cnt L u vs := by
  have : ∀ k, k ≤ vs.length → cnt L u (cnt L u (vs.take k)) = cnt L u (vs.take k) := by
    intro k
    induction k with
    | zero => intro _; simp [cnt]
    | succ k ih =>
      intro hk
      have hk' : k < vs.length := by omega
      have ih := ih (by omega)
      rw [cnt_succ hk']
      unfold cstep
      split
      · exact ih
      · rename_i h
        have : cnt L u (cnt L u (vs.take k) ++ [vs[k]]) = cstep L u (cnt L u (cnt L u (vs.take k))) vs[k] := by
          unfold cnt; rw [List.foldl_append]; rfl
        rw [this, ih]
        simp [cstep, h]
  have := this vs.length (Nat.le_refl _)
  rwa [List.take_length] at this
theorem counted_ok {L : List Int} (h : okM L = true) (vs : List V) (u : Int) : counted L vs u = cnt L u vs := by simp [counted, h]
theorem counted_idem {L : List Int} (h : okM L = true) (vs : List V) (u : Int) : counted L (counted L vs u) u = counted L vs u := by
  simp only [counted_ok h, cnt_idem]
theorem okM_len {L : List Int} (h : okM L = true) : 1 ≤ L.length ∧ (L.length : Int) ≤ 60 := by
  simp [okM] at h
  omega
theorem tBad_ok {L : List Int} {share : Int} (h : okM L = true) (h1 : 0 ≤ share) (h2 : share ≤ 1000) : tBad L share = false := by
  have := okM_len h
  simp [tBad, h, nBad]
  omega
theorem need_bd {L : List Int} {share : Int} (h : tBad L share = false) : 1 ≤ nNeed L.length share ∧ nNeed L.length share ≤ L.length := by
  simp [tBad, nBad] at h
  obtain ⟨⟨⟨⟨h1, h2⟩, h3⟩, h4⟩, h5⟩ := h
  have h6 : (L.length : Int) * share ≤ L.length * 1000 := Int.mul_le_mul_of_nonneg_left h4 (by omega)
  unfold nNeed
  omega
theorem tally_ok {L : List Int} {vs : List V} {share u day : Int} (h : tBad L share = false) : tally L vs share u day = if says L.length (nNeed L.length share) (counted L vs u) = 0 ∧ u < day then 2 else says L.length (nNeed L.length share) (counted L vs u) := by
  simp [tally, h]
/-- If all have spoken it is decided. -/
theorem tally_full {L : List Int} {vs : List V} {share u day : Int} (h : tBad L share = false) (hl : (L.length : Int) ≤ (counted L vs u).length) : tally L vs share u day ≠ 0 := by
  have hn := need_bd h
  have hy := yesN_le (counted L vs u)
  rw [tally_ok h]
  have : says L.length (nNeed L.length share) (counted L vs u) ≠ 0 := by
    unfold says
    split
    · decide
    · split
      · decide
      · omega
  split
  · decide
  · exact this

end Go.Proofs.Ytflcmfeafiippaa
