import Derived.Test.YtebinaffldlihaaGreatDoorBigW
set_option linter.all false
namespace Go.Proofs.YtebinaffldlihaaGreatDoor
open Go.RowKit Go.Ab
theorem qM {u : Nat} (h : u < 10) : (oo u).toNat = 48 + u := by
  unfold oo
  rw [UInt8.toNat_ofNat']
  omega
theorem fK : ∀ n : Nat, numF (dd n) = n ∧ (∀ c ∈ dd n, isDg c) ∧ dd n ≠ [] ∧ (0 < n → (dd n).head? ≠ some 48) := by
  intro n
  induction n using Nat.strongRecOn with
  | _ n ih =>
    by_cases h : n < 10
    · rw [cL h]
      have := qM h
      refine ⟨?_, ?_, by simp, fun hn => ?_⟩
      · simp [numF]; omega
      · intro c hc
        rw [List.mem_singleton] at hc
        subst hc
        unfold isDg; omega
      · simp only [List.head?_cons, ne_eq, Option.some.injEq, ← UInt8.toNat_inj]
        rw [this]
        show ¬ 48 + n = 48
        omega
    · rw [c5 (by omega)]
      obtain ⟨h1, h2, h3, h4⟩ := ih (n / 10) (by omega)
      have := qM (u := n % 10) (by omega)
      refine ⟨?_, ?_, by simp, fun hn => ?_⟩
      · rw [dL, h1, this]; omega
      · intro c hc
        rcases List.mem_append.1 hc with hc | hc
        · exact h2 c hc
        · rw [List.mem_singleton] at hc
          subst hc
          unfold isDg; omega
      · obtain ⟨x, xs, hx⟩ := List.exists_cons_of_ne_nil h3
        rw [hx] at h4 ⊢
        simpa using h4 (by omega)
theorem wU {n : Nat} (h : 0 < n) : good (dd n) := ⟨(fK n).2.2.1, (fK n).2.2.2 h, (fK n).2.1⟩
theorem wV {c : UInt8} (h : isDg c) : oo (((c.toNat : Int) - 48).toNat) = c ∧ ((c.toNat : Int) - 48).toNat < 10 := by
  unfold isDg at h
  have h2 : ((c.toNat : Int) - 48).toNat < 10 := by omega
  refine ⟨?_, h2⟩
  rw [← UInt8.toNat_inj, qM h2]
  omega
theorem wW : ∀ (t : List UInt8), good t → 0 < numF t ∧ dd (numF t).toNat = t := by
  have key : ∀ (k : Nat) (t : List UInt8), t.length = k → good t → 0 < numF t ∧ dd (numF t).toNat = t := by
    intro k
    induction k with
    | zero => intro t hk h; exact absurd (List.length_eq_zero_iff.1 hk) h.1
    | succ k ih =>
      rintro t hk ⟨h1, h2, h3⟩
      obtain ⟨s, c, rfl⟩ : ∃ s c, t = s ++ [c] := ⟨t.dropLast, t.getLast h1, (List.dropLast_concat_getLast h1).symm⟩
      have hc := h3 c (by simp)
      obtain ⟨hb1, hb2⟩ := wV hc
      rw [dL]
      by_cases hs : s = []
      · subst hs
        have hne : c.toNat ≠ 48 := by
          intro e
          apply h2
          simp only [List.nil_append, List.head?_cons, Option.some.injEq, ← UInt8.toNat_inj]
          exact e
        unfold isDg at hc
        have h0 : numF [] = 0 := rfl
        rw [h0]
        refine ⟨by omega, ?_⟩
        rw [show (0 * 10 + ((c.toNat : Int) - 48)).toNat = ((c.toNat : Int) - 48).toNat by omega, cL hb2, hb1]
        rfl
      · have hg : good s := by
          refine ⟨hs, ?_, fun c hc => h3 c (List.mem_append_left _ hc)⟩
          obtain ⟨x, xs, hx⟩ := List.exists_cons_of_ne_nil hs
          rw [hx] at h2 ⊢
          simpa using h2
        obtain ⟨i1, i2⟩ := ih s (by simp at hk; omega) hg
        unfold isDg at hc
        refine ⟨by omega, ?_⟩
        rw [show (numF s * 10 + ((c.toNat : Int) - 48)).toNat = 10 * (numF s).toNat + ((c.toNat : Int) - 48).toNat by omega, vM (by omega) hb2, i2, hb1]
  exact fun t h => key t.length t rfl h
theorem jH (t : List UInt8) : Lib.trimPrefix (45 :: t) [45] = t ∧ Lib.hasPrefix (45 :: t) [45] = true := by
  constructor <;> simp [Lib.trimPrefix, Lib.hasPrefix]
theorem jI {t : List UInt8} (h : t.head? ≠ some 45) : Lib.trimPrefix t [45] = t ∧ Lib.hasPrefix t [45] = false := by
  have h2 : Lib.hasPrefix t [45] = false := by
    cases t with
    | nil => rfl
    | cons x xs =>
      have hx : ¬ x = 45 := by simpa using h
      simp only [Lib.hasPrefix, List.isPrefixOf, Bool.and_true, beq_eq_false_iff_ne, ne_eq]
      intro e; exact hx e.symm
  exact ⟨by unfold Lib.trimPrefix; rw [h2]; rfl, h2⟩
theorem lU (n : Nat) : (dd n).head? ≠ some 45 := by
  obtain ⟨_, h, h2, _⟩ := fK n
  obtain ⟨x, xs, hx⟩ := List.exists_cons_of_ne_nil h2
  rw [hx] at h ⊢
  have := h x (by simp)
  unfold isDg at this
  simp only [List.head?_cons, ne_eq, Option.some.injEq, ← UInt8.toNat_inj]
  show ¬ x.toNat = 45
  omega
theorem d9 {z : Int} (h : rz z) : rd (txt z) = (z, 0) := by
  unfold rd txt
  by_cases h0 : z = 0
  · rw [if_pos h0, if_pos rfl, h0]
  · rw [if_neg h0]
    have hn : 0 < z.natAbs := by omega
    have hg := wU hn
    have hv := (fK z.natAbs).1
    have hlt : numF (dd z.natAbs) < 1048576 ^ 60 := by
      rw [hv]
      unfold rz at h
      have : ab z = (z.natAbs : Int) := by unfold ab; split <;> omega
      rwa [this] at h
    by_cases hz : z < 0
    · rw [if_pos hz, if_neg (by simp), (jH _).1, (jH _).2, if_pos hg, if_pos hlt, if_pos rfl, hv]
      congr 1; omega
    · rw [if_neg hz, if_neg (fun e => hg.2.1 (by rw [e]; rfl)), (jI (lU _)).1, (jI (lU _)).2, if_pos hg, if_pos hlt, hv]
      rw [if_neg (by simp)]
      congr 1; omega
theorem zH (s : List UInt8) (h : Lib.hasPrefix s [45] = true) : s = 45 :: Lib.trimPrefix s [45] := by
  cases s with
  | nil => simp [Lib.hasPrefix] at h
  | cons x xs =>
    simp [Lib.hasPrefix] at h
    subst h
    rw [(jH xs).1]
theorem k5 {s : List UInt8} (h : (rd s).2 = 0) : rz (rd s).1 ∧ txt (rd s).1 = s := by
  unfold rd at h ⊢
  split
  · rename_i h0
    exact ⟨by unfold rz ab; simp, by rw [h0]; rfl⟩
  · rename_i h0
    rw [if_neg h0] at h
    split
    · rename_i hg
      rw [if_pos hg] at h
      obtain ⟨g1, g2⟩ := wW _ hg
      by_cases hlt : numF (Lib.trimPrefix s [45]) < 1048576 ^ 60
      · rw [if_pos hlt]
        generalize hN : numF (Lib.trimPrefix s [45]) = n at *
        by_cases hp : Lib.hasPrefix s [45] = true
        · rw [if_pos hp]
          refine ⟨by unfold rz ab; simp only []; split <;> omega, ?_⟩
          unfold txt
          simp only []
          rw [if_neg (by omega), if_pos (by omega), show (-n).natAbs = n.toNat by omega, g2]
          exact (zH s hp).symm
        · rw [if_neg hp]
          refine ⟨by unfold rz ab; simp only []; split <;> omega, ?_⟩
          unfold txt
          simp only []
          rw [if_neg (by omega), if_neg (by omega), show n.natAbs = n.toNat by omega, g2]
          unfold Lib.trimPrefix
          rw [if_neg hp]
      · rw [if_neg hlt] at h; simp at h
    · rename_i hg
      rw [if_neg hg] at h; simp at h
theorem zI (s : List UInt8) : (rd s).2 = 0 ∨ (rd s).1 = 0 ∧ ((rd s).2 = 2 ∨ (rd s).2 = 6) := by
  unfold rd
  split
  · exact .inl rfl
  · split
    · split
      · exact .inl rfl
      · exact .inr ⟨rfl, .inr rfl⟩
    · exact .inr ⟨rfl, .inl rfl⟩
theorem qW (s : List UInt8) : rz (rd s).1 := by
  rcases zI s with h | ⟨h, _⟩
  · exact (k5 h).1
  · rw [h]; unfold rz ab; simp
end Go.Proofs.YtebinaffldlihaaGreatDoor
