/-
  Layer 18 in plain words: the greatest rests, one after the other.
-/
import Derived.Test.YtoiccjhjfhijpaaSplP
set_option linter.all false
namespace Go.Proofs.Ytoiccjhjfhijpaa

/-- Which places have been taken. -/
def took (n : Nat) (O : List Int) : List Bool := (List.range n).map fun i : Nat => decide ((i : Int) ∈ O)
theorem took_len (n : Nat) (O : List Int) : (took n O).length = n := by simp [took]
theorem took_at {n : Nat} {O : List Int} {i : Nat} (h : i < (took n O).length) : (took n O)[i] = decide ((i : Int) ∈ O) := by simp [took]
theorem took_none (n : Nat) : took n [] = List.replicate n false := by
  apply List.ext_getElem
  · simp [took]
  · intro i h1 h2; rw [took_at h1]; simp
theorem took_succ {n : Nat} {O : List Int} {j b : Nat} (hj : j < O.length) (h : O[j] = (b : Int)) : took n (O.take (j + 1)) = (took n (O.take j)).set b true := by
  apply List.ext_getElem
  · simp [took]
  · intro i h1 h2
    rw [took_at h1, List.getElem_set]
    rw [List.length_set] at h2
    rw [took_at h2, List.take_succ_eq_append_getElem hj, h]
    by_cases e : b = i
    · subst e; simp
    · rw [if_neg e]
      have : ¬ (i : Int) = b := by omega
      simp [this]

/-- What the reference takes next, of those not taken. -/
theorem next_free {R : List Int} {O : List Int} (hO : O = srt (kR R) (idxI R.length)) {k : Nat} (hk : k < O.length) {b : Nat} (hb : b < R.length) (hnb : ¬ (b : Int) ∈ O.take k)
    (h1 : ∀ j (hj : j < R.length), ¬ (j : Int) ∈ O.take k → R[j] ≤ R[b]) (h2 : ∀ j (hj : j < R.length), j < b → ¬ (j : Int) ∈ O.take k → R[j] < R[b]) : O[k] = (b : Int) := by
  have hp : O.Perm (idxI R.length) := by rw [hO]; exact srt_perm _ _
  have hnd : O.Nodup := hp.symm.nodup (idxI_nodup _)
  have hmem : ∀ x, x ∈ O ↔ 0 ≤ x ∧ x < R.length := fun x => by rw [hp.mem_iff]; exact idxI_mem
  have hsrt : O.Pairwise (bef (kR R)) := by rw [hO]; exact srt_sorted (idxI_nodup _)
  have hx := (hmem O[k]).1 (List.getElem_mem hk)
  obtain ⟨m, hm⟩ : ∃ m, (O[k]).toNat = m := ⟨_, rfl⟩
  have hmx : (m : Int) = O[k] := by omega
  have hmR : m < R.length := by omega
  have hnot : (m : Int) ∉ O.take k := by
    intro q
    obtain ⟨j, hj, e⟩ := List.getElem_of_mem q
    rw [List.getElem_take, hmx] at e
    have hjk : j < k := by rw [List.length_take] at hj; omega
    exact absurd e (List.pairwise_iff_getElem.1 hnd j k (by omega) hk hjk)
  have hle := h1 m hmR hnot
  have hbO : (b : Int) ∈ O := (hmem b).2 ⟨by omega, by omega⟩
  obtain ⟨j, hj, e⟩ := List.getElem_of_mem hbO
  rcases Nat.lt_trichotomy j k with q | q | q
  · exact absurd (by rw [← e]; exact List.mem_take_iff_getElem.2 ⟨j, by omega, rfl⟩) hnb
  · subst q; exact e
  · have hbef := List.pairwise_iff_getElem.1 hsrt k j hk hj q
    rw [e] at hbef
    have k1 : kR R O[k] = R[m] := by unfold kR; rw [hm, List.getD_eq_getElem?_getD, List.getElem?_eq_getElem hmR]; rfl
    have k2 : kR R (b : Int) = R[b] := by unfold kR; rw [Int.toNat_natCast, List.getD_eq_getElem?_getD, List.getElem?_eq_getElem hb]; rfl
    unfold bef at hbef
    rw [k1, k2] at hbef
    rcases hbef with h | ⟨h, h'⟩
    · omega
    · have := h2 m hmR (by omega) hnot
      omega
/-- The best so far, of those not taken: -1, or its place. -/
def isFree (R : List Int) (O : List Int) (k : Nat) (b : Int) : Prop :=
  (b = -1 ∧ ∀ j, j < k → (j : Int) ∈ O) ∨ ∃ p : Nat, b = p ∧ p < k ∧ ∃ hp : p < R.length, ¬ (p : Int) ∈ O ∧ (∀ j (hj : j < R.length), j < k → ¬ (j : Int) ∈ O → R[j] ≤ R[p]) ∧ ∀ j (hj : j < R.length), j < p → ¬ (j : Int) ∈ O → R[j] < R[p]
theorem isFree_taken {R O : List Int} {k : Nat} {b : Int} (h : isFree R O k b) (ht : (k : Int) ∈ O) : isFree R O (k + 1) b := by
  rcases h with ⟨e, h⟩ | ⟨p, e, hp, hpR, h1, h2, h3⟩
  · exact .inl ⟨e, fun j hj => by
      by_cases q : j = k
      · subst q; exact ht
      · exact h j (by omega)⟩
  · exact .inr ⟨p, e, by omega, hpR, h1, fun j hj hjk hn => by
      by_cases q : j = k
      · subst q; exact absurd ht hn
      · exact h2 j hj (by omega) hn, h3⟩
theorem isFree_take {R O : List Int} {k : Nat} {b : Int} (h : isFree R O k b) (hk : k < R.length) (ht : ¬ (k : Int) ∈ O) (hb : b < 0 ∨ ∃ p : Nat, b = p ∧ ∃ hp : p < R.length, R[p] < R[k]) : isFree R O (k + 1) k := by
  refine .inr ⟨k, rfl, by omega, hk, ht, fun j hj hjk hn => ?_, fun j hj hjk hn => ?_⟩ <;> rcases h with ⟨e, h⟩ | ⟨p, e, hp, hpR, h1, h2, h3⟩
  · by_cases q : j = k
    · subst q; exact Int.le_refl _
    · exact absurd (h j (by omega)) hn
  · by_cases q : j = k
    · subst q; exact Int.le_refl _
    · have := h2 j hj (by omega) hn
      rcases hb with hb | ⟨p', e', hp', hb⟩
      · omega
      · have : p = p' := by omega
        subst this; omega
  · exact absurd (h j (by omega)) hn
  · have := h2 j hj (by omega) hn
    rcases hb with hb | ⟨p', e', hp', hb⟩
    · omega
    · have : p = p' := by omega
      subst this; omega
theorem isFree_keep {R O : List Int} {k : Nat} {p : Nat} (h : isFree R O k p) (hk : k < R.length) (hp : p < R.length) (hb : R[k] ≤ R[p]) : isFree R O (k + 1) p := by
  rcases h with ⟨e, h⟩ | ⟨p', e, hp', hpR, h1, h2, h3⟩
  · omega
  · have : p = p' := by omega
    subst this
    exact .inr ⟨p, rfl, by omega, hpR, h1, fun j hj hjk hn => by
      by_cases q : j = k
      · subst q; exact hb
      · exact h2 j hj (by omega) hn, h3⟩

end Go.Proofs.Ytoiccjhjfhijpaa
