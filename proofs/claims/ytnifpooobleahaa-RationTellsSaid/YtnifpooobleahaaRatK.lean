/-
  Layer 39 in plain words: the greatest rests, one after the other.
-/
import Derived.Test.YtnifpooobleahaaRatT
import Derived.Test.YtnifpooobleahaaRatC
set_option linter.all false
namespace Go.Proofs.Ytnifpooobleahaa

def marks (R : List Int) (O : List Int) : List Int := O.foldl (fun R x => R.set x.toNat (-1)) R
theorem marks_len : ∀ (O R : List Int), (marks R O).length = R.length
  | [], _ => rfl
  | x :: O, R => by
    have := marks_len O (R.set x.toNat (-1))
    rw [List.length_set] at this
    exact this
theorem marks_succ {R O : List Int} {k : Nat} (h : k < O.length) : marks R (O.take (k + 1)) = (marks R (O.take k)).set (O[k]).toNat (-1) := by
  unfold marks; rw [List.take_succ_eq_append_getElem h, List.foldl_append]; rfl
theorem marks_at : ∀ (O R : List Int) (i : Nat) (h : i < R.length) (h' : i < (marks R O).length), (∀ x ∈ O, 0 ≤ x) → (marks R O)[i] = if (i : Int) ∈ O then -1 else R[i]
  | [], R, i, h, h', _ => by simp [marks]
  | x :: O, R, i, h, hl, hx => by
    have hx0 := hx x (by simp)
    have ih := marks_at O (R.set x.toNat (-1)) i (by simpa using h) hl fun y hy => hx y (List.mem_cons_of_mem _ hy)
    have e : (marks R (x :: O))[i] = (marks (R.set x.toNat (-1)) O)[i]'hl := rfl
    rw [e, ih, List.getElem_set]
    by_cases h1 : (i : Int) ∈ O
    · rw [if_pos h1, if_pos (List.mem_cons_of_mem _ h1)]
    · rw [if_neg h1]
      by_cases h2 : x.toNat = i
      · rw [if_pos h2, if_pos (by rw [show (i : Int) = x by omega]; exact List.mem_cons_self)]
      · rw [if_neg h2, if_neg (fun q => by
          rcases List.mem_cons.1 q with q | q
          · omega
          · exact h1 q)]

/-- What the reference takes next is the next one of the sorted places. -/
theorem next_best {R : List Int} (hR : ∀ r ∈ R, 0 ≤ r) {O : List Int} (hO : O = srt (kf R) (idxI R.length)) {k : Nat} (hk : k < O.length) {b : Nat} (hb : b < R.length)
    (hb' : b < (marks R (O.take k)).length)
    (h1 : ∀ j (hj : j < (marks R (O.take k)).length), (marks R (O.take k))[j] ≤ (marks R (O.take k))[b])
    (h2 : ∀ j (hj : j < (marks R (O.take k)).length), j < b → (marks R (O.take k))[j] < (marks R (O.take k))[b]) : O[k] = (b : Int) := by
  have hp : O.Perm (idxI R.length) := by rw [hO]; exact srt_perm _ _
  have hnd : O.Nodup := hp.symm.nodup (idxI_nodup _)
  have hmem : ∀ x, x ∈ O ↔ 0 ≤ x ∧ x < R.length := fun x => by rw [hp.mem_iff]; exact idxI_mem
  have hsrt : O.Pairwise (bef (kf R)) := by rw [hO]; exact srt_sorted (idxI_nodup _)
  have hx := (hmem O[k]).1 (List.getElem_mem hk)
  have hpos : ∀ x ∈ O.take k, 0 ≤ x := fun x hx => ((hmem x).1 (List.mem_of_mem_take hx)).1
  have at' := fun i h h' => marks_at (O.take k) R i h h' hpos
  have hml := marks_len (O.take k) R
  obtain ⟨m, hm⟩ : ∃ m, (O[k]).toNat = m := ⟨_, rfl⟩
  have hmx : (m : Int) = O[k] := by omega
  have hmR : m < R.length := by omega
  have hnot : (m : Int) ∉ O.take k := by
    intro q
    obtain ⟨j, hj, e⟩ := List.getElem_of_mem q
    rw [List.getElem_take, hmx] at e
    have hjk : j < k := by rw [List.length_take] at hj; omega
    exact absurd e (List.pairwise_iff_getElem.1 hnd j k (by omega) hk hjk)
  have am := at' m hmR (by omega)
  rw [if_neg hnot] at am
  have hm0 := hR _ (List.getElem_mem hmR)
  have ab' := at' b hb hb'
  have hle := h1 m (by omega)
  have hbn : (b : Int) ∉ O.take k := fun q => by rw [if_pos q] at ab'; omega
  rw [if_neg hbn] at ab'
  have hbO : (b : Int) ∈ O := (hmem b).2 ⟨by omega, by omega⟩
  obtain ⟨j, hj, e⟩ := List.getElem_of_mem hbO
  rcases Nat.lt_trichotomy j k with q | q | q
  · exact absurd (by rw [← e]; exact List.mem_take_iff_getElem.2 ⟨j, by omega, rfl⟩) hbn
  · subst q; exact e
  · have hbef := List.pairwise_iff_getElem.1 hsrt k j hk hj q
    rw [e] at hbef
    have k1 : kf R O[k] = R[m] := by unfold kf; rw [hm]; exact getD_lt hmR
    have k2 : kf R (b : Int) = R[b] := by unfold kf; exact getD_lt hb
    unfold bef at hbef
    rw [k1, k2] at hbef
    rcases hbef with h | ⟨h, h'⟩
    · omega
    · have := h2 m (by omega) (by omega)
      omega

end Go.Proofs.Ytnifpooobleahaa
