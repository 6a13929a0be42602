/-
  Layer 6 in plain words: what was signed, and what holds.
-/
import Derived.Test.YtgfgajofilcniaaSealP
set_option linter.all false
namespace Go.Proofs.Ytgfgajofilcniaa
open Go.RowKit Go.Ab

/-- The signatures of those of the first k whose key is one. -/
def madeV (l : List E) : Nat → List G
  | 0 => []
  | k + 1 => if isKey (l[k]?.getD ⟨0, ⟨#[]⟩⟩).key then madeV l k ++ [sg (ent (l.take k)) (l[k]?.getD ⟨0, ⟨#[]⟩⟩)] else madeV l k
theorem madeV_yes {l : List E} {k : Nat} (h : k < l.length) (hk : isKey l[k].key = true) : madeV l (k + 1) = madeV l k ++ [sg (ent (l.take k)) l[k]] := by
  simp [madeV, h, hk]
theorem madeV_no {l : List E} {k : Nat} (h : k < l.length) (hk : isKey l[k].key = false) : madeV l (k + 1) = madeV l k := by
  simp [madeV, h, hk]
theorem madeV_len (l : List E) : ∀ k, (madeV l k).length ≤ k
  | 0 => Nat.le_refl _
  | k + 1 => by
    have := madeV_len l k
    simp only [madeV]; split <;> simp <;> omega
theorem madeV_mem {l : List E} {g : G} : ∀ k, k ≤ l.length → (g ∈ madeV l k ↔ ∃ i, ∃ h : i < l.length, i < k ∧ isKey l[i].key = true ∧ g = sg (ent (l.take i)) l[i])
  | 0, _ => by simp [madeV]
  | k + 1, hk => by
    have hkl : k < l.length := by omega
    have ih := madeV_mem (l := l) (g := g) k (by omega)
    cases hy : isKey l[k].key with
    | true =>
      rw [madeV_yes hkl hy, List.mem_append, List.mem_singleton, ih]
      constructor
      · rintro (⟨i, h, h1, h2⟩ | h)
        · exact ⟨i, h, by omega, h2⟩
        · exact ⟨k, hkl, by omega, hy, h⟩
      · rintro ⟨i, h, h1, h2, h3⟩
        by_cases hi : i = k
        · subst hi; exact .inr h3
        · exact .inl ⟨i, h, by omega, h2, h3⟩
    | false =>
      rw [madeV_no hkl hy, ih]
      constructor
      · rintro ⟨i, h, h1, h2⟩; exact ⟨i, h, by omega, h2⟩
      · rintro ⟨i, h, h1, h2, h3⟩
        refine ⟨i, h, ?_, h2, h3⟩
        rcases Nat.lt_or_ge i k with h4 | h4
        · exact h4
        · have : i = k := by omega
          subst this; rw [hy] at h2; cases h2
/-- Entries come from the list, with a key that is one. -/
theorem ent_from {l : List E} {e : E} : ∀ k, k ≤ l.length → e ∈ ent (l.take k) → isKey e.key = true ∧ ∃ i, ∃ h : i < l.length, i < k ∧ l[i] = e
  | 0, _, h => by simp [ent_nil] at h
  | k + 1, hk, h => by
    have hkl : k < l.length := by omega
    rw [ent_succ hkl] at h
    have hor : e ∈ ent (l.take k) ∨ (isKey l[k].key = true ∧ e = l[k]) := by
      simp only [sigL] at h
      split at h
      · rename_i hc
        simp only [Bool.and_eq_true] at hc
        rcases List.mem_append.1 h with h | h
        · exact .inl h
        · exact .inr ⟨hc.1, List.mem_singleton.1 h⟩
      · exact .inl h
    rcases hor with h | ⟨h1, rfl⟩
    · obtain ⟨h1, i, h2, h3, h4⟩ := ent_from (l := l) k (by omega) h
      exact ⟨h1, i, h2, by omega, h4⟩
    · exact ⟨h1, k, hkl, by omega, rfl⟩
/-- A SIGNATURE HOLDS EXACTLY IF IT WAS RETURNED. -/
theorem holds_iff (l : List E) (g : G) (k : Nat) (hk : k ≤ l.length) : holds (ent (l.take k)) g = decide (g ∈ madeV l k) := by
  rw [Bool.eq_iff_iff]
  simp only [holds, Bool.and_eq_true, decide_eq_true_eq]
  rw [madeV_mem k hk]
  have stay : ∀ i (h : i < l.length), i < k → isKey l[i].key = true → sg (ent (l.take i)) l[i] = ⟨l[i].key, l[i].text, ((ent (l.take k)).findIdx (· = l[i]) : Nat)⟩ := by
    intro i h hi hy
    obtain ⟨M, hM⟩ := ent_app l (i + 1) k (by omega) hk
    rw [hM, ent_succ h]; exact sg_stays hy M
  constructor
  · rintro ⟨h1, h2⟩
    obtain ⟨hy, i, hi, hik, he⟩ := ent_from k hk h1
    have hyi : isKey l[i].key = true := by rw [he]; exact hy
    refine ⟨i, hi, hik, hyi, ?_⟩
    rw [stay i hi hik hyi, he]
    cases g; simp at h2 ⊢; exact h2.symm
  · rintro ⟨i, hi, hik, hy, rfl⟩
    rw [stay i hi hik hy]
    exact ⟨mem_ent hik hk hy, rfl⟩
theorem was_step {M : List G} {g : G} {j : Nat} (h : j < M.length) : (decide (g ∈ M.take j) || decide (M[j] = g)) = decide (g ∈ M.take (j + 1)) := by
  rw [List.take_succ_eq_append_getElem h, Bool.eq_iff_iff]
  simp only [Bool.or_eq_true, decide_eq_true_eq, List.mem_append, List.mem_singleton]
  rw [show M[j] = g ↔ g = M[j] from ⟨Eq.symm, Eq.symm⟩]

end Go.Proofs.Ytgfgajofilcniaa
