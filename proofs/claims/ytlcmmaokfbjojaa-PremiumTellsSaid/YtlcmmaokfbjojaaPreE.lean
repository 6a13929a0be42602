/-
  Layer 37 in plain words: rates beside one another.
-/
import Derived.Test.YtlcmmaokfbjojaaPreD
set_option linter.all false
namespace Go.Proofs.Ytlcmmaokfbjojaa

theorem rt_rf {c S w : Int} (h1 : 0 ≤ c * w ∧ c * w ≤ 1099511627776 * 1001) (hS : 1 ≤ S ∧ S ≤ 60060) : rf (rt c S w).1 (rt c S w).2 :=
  low_rf (rz_c (by unfold ab; split <;> omega)) (rz_c (by unfold ab; split <;> omega)) (by omega)
/-- Two fractions in lowest terms compare as what they came from. -/
theorem low_cmp {p q r s : Int} (hq : 0 < q) (hs : 0 < s) : cmpI (np p q * nq r s) (np r s * nq p q) = cmpI (p * s) (r * q) := by
  obtain ⟨a1, _, a3, _⟩ := low_spec (p := p) (q := q) (by omega)
  obtain ⟨b1, _, b3, _⟩ := low_spec (p := r) (q := s) (by omega)
  generalize np p q = x at *
  generalize nq p q = y at *
  generalize np r s = u at *
  generalize nq r s = v at *
  have e1 : x * v * (q * s) = p * s * (y * v) := by
    calc x * v * (q * s) = x * q * (v * s) := by rw [Int.mul_assoc x v, Int.mul_left_comm v q s, ← Int.mul_assoc x q]
      _ = p * y * (v * s) := by rw [a3]
      _ = p * s * (y * v) := by rw [Int.mul_comm v s, Int.mul_assoc p y, Int.mul_left_comm y s v, ← Int.mul_assoc p s]
  have e2 : u * y * (q * s) = r * q * (y * v) := by
    calc u * y * (q * s) = u * s * (y * q) := by rw [Int.mul_comm q s, Int.mul_assoc u y, Int.mul_left_comm y s q, ← Int.mul_assoc u s]
      _ = r * v * (y * q) := by rw [b3]
      _ = r * q * (y * v) := by rw [Int.mul_comm y q, Int.mul_assoc r v, Int.mul_left_comm v q y, ← Int.mul_assoc r q, Int.mul_comm v y]
  have h1 := cmpI_mul (x * v) (u * y) (q * s)
  have h2 := cmpI_mul (p * s) (r * q) (y * v)
  have s1 : sg (q * s) = 1 := by have := Int.mul_pos hq hs; rcases sg_cases (q * s) with h | h | h <;> omega
  have s2 : sg (y * v) = 1 := by have := Int.mul_pos a1 b1; rcases sg_cases (y * v) with h | h | h <;> omega
  rw [s1, Int.mul_one] at h1
  rw [s2, Int.mul_one] at h2
  rw [← h1, ← h2, e1, e2]
theorem rt_cmp {c S w v : Int} (hc : 0 < c) (hS : 0 < S) : cmpI ((rt c S w).1 * (rt c S v).2) ((rt c S v).1 * (rt c S w).2) = cmpI w v := by
  have h := low_cmp (p := c * w) (r := c * v) hS hS
  have h1 := cmpI_mul (c * w) (c * v) S
  have h2 := cmpI_mul w v c
  have s1 : sg S = 1 := by rcases sg_cases S with h | h | h <;> omega
  have s2 : sg c = 1 := by rcases sg_cases c with h | h | h <;> omega
  rw [s1, Int.mul_one] at h1
  rw [s2, Int.mul_one] at h2
  show cmpI (np (c * w) S * nq (c * v) S) (np (c * v) S * nq (c * w) S) = _
  rw [h, h1, Int.mul_comm c w, Int.mul_comm c v, h2]
theorem rt_more {c S w v : Int} (hc : 0 < c) (hS : 0 < S) : cmpI ((rt c (S + 1) v).1 * (rt c S w).2) ((rt c S w).1 * (rt c (S + 1) v).2) = cmpI (v * S) (w * (S + 1)) := by
  have h := low_cmp (p := c * v) (r := c * w) (q := S + 1) (s := S) (by omega) hS
  have h2 := cmpI_mul (v * S) (w * (S + 1)) c
  have s2 : sg c = 1 := by rcases sg_cases c with h | h | h <;> omega
  rw [s2, Int.mul_one] at h2
  show cmpI (np (c * v) (S + 1) * nq (c * w) S) (np (c * w) S * nq (c * v) (S + 1)) = _
  rw [h, ← h2, Int.mul_comm c v, Int.mul_comm c w, Int.mul_assoc v c, Int.mul_comm c S, ← Int.mul_assoc, Int.mul_assoc w c, Int.mul_comm c (S + 1), ← Int.mul_assoc]
theorem rts_at {C : List Int} {b : Int} {i : Nat} (h : i < C.length) (h' : i < (rts C b).length) : (rts C b)[i] = rt (b * C.length) (sumL (wts C)) (C[i] + 1) := by
  simp [rts, wts]
theorem sumL_set : ∀ (L : List Int) (k : Nat) (v : Int) (h : k < L.length), sumL (L.set k v) = sumL L + (v - L[k])
  | x :: L, 0, v, _ => by simp only [List.set_cons_zero, sumL_cons, List.getElem_cons_zero]; omega
  | x :: L, k + 1, v, h => by
    have := sumL_set L k v (by simpa using h)
    simp only [List.set_cons_succ, sumL_cons, List.getElem_cons_succ]; omega
theorem more_right {C : List Int} {b : Int} {k : Nat} (h : rightP C b = true) (hk : k < C.length) (h1 : C[k] < 1000) : rightP (C.set k (C[k] + 1)) b = true ∧ sumL (wts (C.set k (C[k] + 1))) = sumL (wts C) + 1 := by
  have R := right_RP h
  have hck := R.mem hk
  constructor
  · unfold rightP okB at *
    rw [List.length_set]
    simp only [Bool.and_eq_true] at h ⊢
    refine ⟨h.1, List.all_eq_true.2 fun x hx => ?_⟩
    rcases List.mem_or_eq_of_mem_set hx with q | q
    · exact List.all_eq_true.1 h.2 x q
    · subst q; rw [inC7_iff]; omega
  · have e : wts (C.set k (C[k] + 1)) = (wts C).set k (C[k] + 1 + 1) := by unfold wts; rw [List.map_set]
    rw [e, sumL_set _ _ _ (by rw [wts_len]; exact hk), wts_at hk]; omega
theorem mem_lt {C : List Int} {b : Int} (R : RP C b) (h2 : 2 ≤ C.length) {k : Nat} (hk : k < C.length) : C[k] + 1 < sumL (wts C) := by
  have h := wts_bd (C := C.set k 0) (List.all_eq_true.2 fun x hx => by
    rcases List.mem_or_eq_of_mem_set hx with q | q
    · exact List.all_eq_true.1 R.all x q
    · subst q; rfl)
  have e : wts (C.set k 0) = (wts C).set k (0 + 1) := by unfold wts; rw [List.map_set]
  rw [e, sumL_set _ _ _ (by rw [wts_len]; exact hk), wts_at hk, List.length_set] at h
  omega

end Go.Proofs.Ytlcmmaokfbjojaa
