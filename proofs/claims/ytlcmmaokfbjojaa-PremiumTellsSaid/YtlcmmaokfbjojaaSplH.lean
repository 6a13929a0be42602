/-
  Layer 18 in plain words: what is given, and what is given fairly.
-/
import Derived.Test.YtlcmmaokfbjojaaSplG
set_option linter.all false
namespace Go.Proofs.Ytlcmmaokfbjojaa

theorem gt_W {W : List Int} (hok : okW W = true) (i : Nat) : 0 ≤ gt W i := by
  by_cases h : i < W.length
  · rw [gt_at h]; exact (okW_mem hok (List.getElem_mem h)).1
  · unfold gt; rw [List.getD_eq_getElem?_getD, List.getElem?_eq_none (by omega)]; exact Int.le_refl _
theorem W_le {W : List Int} (hok : okW W = true) {i : Nat} (h : i < W.length) : gt W i ≤ sumL W := by
  rw [gt_at h]; exact mem_sum (fun x hx => (okW_mem hok hx).1) (List.getElem_mem h)
theorem giv_le {W : List Int} (hok : okW W = true) (hs : 0 < sumL W) (t : Nat) {i : Nat} (h : i < W.length) : 0 ≤ gt (giv W t) i ∧ gt (giv W t) i ≤ t := by
  have ok := (giv_ok (gt_W hok) hs t).1
  refine ⟨ok.nn i, ?_⟩
  have h1 := ok.up i h
  have h2 : (t : Int) * gt W i ≤ t * sumL W := Int.mul_le_mul_of_nonneg_left (W_le hok h) (by omega)
  have h3 : gt (giv W t) i * sumL W < ((t : Int) + 1) * sumL W := by rw [Int.add_mul, Int.one_mul]; omega
  have := Int.lt_of_mul_lt_mul_right h3 (by omega)
  omega
theorem given_len (W : List Int) (n : Int) : (given W n).length = W.length := by unfold given; rw [List.length_zipWith, giv_len]; omega
theorem given_at {W : List Int} {n : Int} {i : Nat} (h : i < W.length) (h' : i < (given W n).length) (h2 : i < (giv W (n % sumL W).toNat).length) : (given W n)[i] = (giv W (n % sumL W).toNat)[i] + n / sumL W * W[i] := by
  simp [given]
theorem given_gt {W : List Int} {n : Int} {i : Nat} (h : i < W.length) : gt (given W n) i = gt (giv W (n % sumL W).toNat) i + n / sumL W * gt W i := by
  rw [gt_at (by rw [given_len]; exact h), gt_at (by rw [giv_len]; exact h), gt_at h]; exact given_at h _ _

/-- A row, new up to a place, and old behind it. -/
def mixL (A B : List Int) (k : Nat) : List Int := A.take k ++ B.drop k
theorem mix_len {A B : List Int} (h : A.length = B.length) {k : Nat} (hk : k ≤ A.length) : (mixL A B k).length = A.length := by simp [mixL]; omega
theorem mix_zero (A B : List Int) : mixL A B 0 = B := by simp [mixL]
theorem mix_full {A B : List Int} (h : A.length = B.length) : mixL A B A.length = A := by
  unfold mixL; rw [List.take_length, List.drop_of_length_le (by omega), List.append_nil]
theorem mix_at {A B : List Int} (h : A.length = B.length) {k : Nat} (hk : k < B.length) (hk' : k < (mixL A B k).length) : (mixL A B k)[k] = B[k] := by
  have e : (mixL A B k)[k]? = B[k]? := by
    unfold mixL
    rw [List.getElem?_append_right (by simp; omega), List.getElem?_drop, List.length_take]
    congr 1; omega
  rw [List.getElem?_eq_getElem hk', List.getElem?_eq_getElem hk] at e
  exact Option.some.inj e
theorem mix_set {A B : List Int} (h : A.length = B.length) {k : Nat} (hk : k < A.length) : (mixL A B k).set k A[k] = mixL A B (k + 1) := by
  unfold mixL
  rw [List.set_append_right _ _ (by simp; omega), List.length_take, Nat.min_eq_left (by omega), Nat.sub_self, List.drop_eq_getElem_cons (by omega), List.set_cons_zero,
    List.take_succ_eq_append_getElem hk, List.append_assoc]
  rfl

/-- The error of Given. -/
def givenE (W : List Int) (n : Int) : Int := if wsum W = 0 ∨ isAm n = false then 1 else if 65536 < wsum W then 6 else 0
theorem givenE_zero {W : List Int} {n : Int} (h : givenE W n = 0) : okW W = true ∧ wsum W = sumL W ∧ 0 < sumL W ∧ sumL W ≤ 65536 ∧ 0 ≤ n ∧ n ≤ 1099511627776 ∧ isAm n = true := by
  unfold givenE at h
  split at h
  · cases h
  · rename_i h1
    split at h
    · cases h
    · rename_i h2
      obtain ⟨a, b, c⟩ := wsum_pos (W := W) (fun q => h1 (.inl q))
      have hn : isAm n = true := by cases q : isAm n with
        | true => rfl
        | false => exact absurd (.inr q) h1
      have hn2 : 0 ≤ n ∧ n ≤ 1099511627776 := by simpa [isAm] using hn
      exact ⟨a, b, c, by omega, hn2.1, hn2.2, hn⟩
/-- What is given is between 0 and the amount. -/
theorem given_bd {W : List Int} {n : Int} (hok : okW W = true) (hs : 0 < sumL W) (hn : 0 ≤ n) {i : Nat} (h : i < W.length) : 0 ≤ gt (given W n) i ∧ gt (given W n) i ≤ n ∧ 0 ≤ n / sumL W * gt W i ∧ n / sumL W * gt W i ≤ n := by
  rw [given_gt h]
  have h1 := Int.emod_nonneg n (show sumL W ≠ 0 by omega)
  have h2 := giv_le hok hs (n % sumL W).toNat h
  have h3 := Int.ediv_nonneg hn (show 0 ≤ sumL W by omega)
  have h4 := Int.mul_nonneg h3 (gt_W hok i)
  have h5 : n / sumL W * gt W i ≤ n / sumL W * sumL W := Int.mul_le_mul_of_nonneg_left (W_le hok h) h3
  have h6 := Int.mul_ediv_add_emod n (sumL W)
  rw [Int.mul_comm] at h6
  omega
/-- The error and the result of Fair. -/
def fairE (n : Int) (W : List Int) (b : Int) : Int := if isAm n = false ∨ isAm b = false then 1 else if givenE W b ≠ 0 then givenE W b else givenE W (b + n)
def fair (n : Int) (W : List Int) (b : Int) : List Int := List.zipWith (fun x y => x - y) (given W (b + n)) (given W b)
theorem fair_len (n : Int) (W : List Int) (b : Int) : (fair n W b).length = W.length := by unfold fair; rw [List.length_zipWith, given_len, given_len]; omega
theorem fair_at {n : Int} {W : List Int} {b : Int} {i : Nat} (h : i < (fair n W b).length) (h1 : i < (given W (b + n)).length) (h2 : i < (given W b).length) : (fair n W b)[i] = (given W (b + n))[i] - (given W b)[i] := by simp [fair]

end Go.Proofs.Ytlcmmaokfbjojaa
