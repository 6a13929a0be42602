/-
  Layer 39 in plain words: sharing in proportion.
-/
import Derived.Test.YtjgkjenbgadacaaDoorSortP
import Derived.Test.YtjgkjenbgadacaaDoorRatP
set_option linter.all false
namespace Go.Proofs.YtjgkjenbgadacaaDoor

def idxI (n : Nat) : List Int := (List.range n).map fun i : Nat => (i : Int)
theorem idxI_len (n : Nat) : (idxI n).length = n := by simp [idxI]
theorem idxI_at {n i : Nat} (h : i < (idxI n).length) : (idxI n)[i] = i := by simp [idxI]
theorem idxI_succ (n : Nat) : idxI (n + 1) = idxI n ++ [(n : Int)] := by simp [idxI, List.range_succ]
theorem idxI_nodup (n : Nat) : (idxI n).Nodup := List.pairwise_iff_getElem.2 fun i j hi hj hij => by rw [idxI_at hi, idxI_at hj]; omega
theorem idxI_ord (n : Nat) : ∀ i j (hi : i < (idxI n).length) (hj : j < (idxI n).length), i < j → (idxI n)[i] < (idxI n)[j] := fun i j hi hj hij => by rw [idxI_at hi, idxI_at hj]; omega
theorem idxI_mem {n : Nat} {x : Int} : x ∈ idxI n ↔ 0 ≤ x ∧ x < n := by
  simp only [idxI, List.mem_map, List.mem_range]
  constructor
  · rintro ⟨i, hi, rfl⟩; omega
  · rintro ⟨h1, h2⟩; exact ⟨x.toNat, by omega, by omega⟩

def qF (h s : Int) (C : List Int) : List Int := C.map fun c => h * c / s
def rF (h s : Int) (C : List Int) : List Int := C.map fun c => h * c % s
theorem qF_succ {h s : Int} {C : List Int} {k : Nat} (hk : k < C.length) : qF h s (C.take (k + 1)) = qF h s (C.take k) ++ [h * C[k] / s] := by
  unfold qF; rw [List.take_succ_eq_append_getElem hk, List.map_append]; rfl
theorem rF_succ {h s : Int} {C : List Int} {k : Nat} (hk : k < C.length) : rF h s (C.take (k + 1)) = rF h s (C.take k) ++ [h * C[k] % s] := by
  unfold rF; rw [List.take_succ_eq_append_getElem hk, List.map_append]; rfl
theorem qF_len (h s : Int) (C : List Int) : (qF h s C).length = C.length := by simp [qF]
theorem rF_len (h s : Int) (C : List Int) : (rF h s C).length = C.length := by simp [rF]
theorem qr_sum (h s : Int) : ∀ C : List Int, s * sumL (qF h s C) + sumL (rF h s C) = h * sumL C
  | [] => by simp [qF, rF]
  | c :: C => by
    have ih := qr_sum h s C
    have := Int.mul_ediv_add_emod (h * c) s
    simp only [qF, rF, List.map_cons, sumL_cons] at ih ⊢
    rw [Int.mul_add, Int.mul_add]; omega
theorem rF_bd {h s : Int} (hs : 0 < s) : ∀ C : List Int, 0 ≤ sumL (rF h s C) ∧ sumL (rF h s C) ≤ C.length * (s - 1)
  | [] => by simp [rF]
  | c :: C => by
    have ih := rF_bd (h := h) hs C
    have h1 := Int.emod_nonneg (h * c) (show s ≠ 0 by omega)
    have h2 := Int.emod_lt_of_pos (h * c) hs
    simp only [rF, List.map_cons, sumL_cons, List.length_cons] at ih ⊢
    rw [show ((C.length + 1 : Nat) : Int) * (s - 1) = C.length * (s - 1) + (s - 1) by rw [Int.natCast_add, Int.add_mul]; simp]
    omega
/-- How many coins are left. -/
theorem left_bd {h : Int} {C : List Int} (hs : 0 < sumL C) : 0 ≤ h - sumL (qF h (sumL C) C) ∧ h - sumL (qF h (sumL C) C) ≤ C.length := by
  obtain ⟨s, e⟩ : ∃ s, sumL C = s := ⟨_, rfl⟩
  have h1 := qr_sum h s C
  have h2 := rF_bd (h := h) (s := s) (by omega) C
  rw [e] at hs h1 ⊢
  have h3 : s * (h - sumL (qF h s C)) = sumL (rF h s C) := by rw [Int.mul_sub, Int.mul_comm s h]; omega
  have h4 : (C.length : Int) * (s - 1) ≤ s * C.length := by rw [Int.mul_sub, Int.mul_comm s]; omega
  refine ⟨?_, ?_⟩
  · exact Int.le_of_mul_le_mul_left (by rw [h3]; simpa using h2.1) hs
  · exact Int.le_of_mul_le_mul_left (show s * _ ≤ s * _ by omega) hs
def bump (L : List Int) (x : Int) : List Int := L.set x.toNat (L.getD x.toNat 0 + 1)
def bumps (L : List Int) (O : List Int) : List Int := O.foldl bump L
theorem bump_len (L : List Int) (x : Int) : (bump L x).length = L.length := by simp [bump]
theorem bumps_len : ∀ (O L : List Int), (bumps L O).length = L.length
  | [], _ => rfl
  | x :: O, L => by
    have := bumps_len O (bump L x)
    rwa [bump_len] at this
theorem bumps_succ {L O : List Int} {k : Nat} (h : k < O.length) : bumps L (O.take (k + 1)) = bump (bumps L (O.take k)) O[k] := by
  unfold bumps; rw [List.take_succ_eq_append_getElem h, List.foldl_append]; rfl
theorem bump_bd {L : List Int} {x B : Int} (h : ∀ v ∈ L, 0 ≤ v ∧ v ≤ B) : ∀ v ∈ bump L x, 0 ≤ v ∧ v ≤ B + 1 := by
  intro v hv
  unfold bump at hv
  by_cases hx : x.toNat < L.length
  · have e : L.getD x.toNat 0 = L[x.toNat] := by rw [List.getD_eq_getElem?_getD, List.getElem?_eq_getElem hx]; rfl
    rcases List.mem_or_eq_of_mem_set hv with hv | rfl
    · have := h v hv; omega
    · rw [e]; have := h _ (List.getElem_mem hx); omega
  · rw [List.set_eq_of_length_le (by omega)] at hv
    have := h v hv; omega
theorem bumps_bd : ∀ (O : List Int) {L : List Int} {B : Int}, (∀ v ∈ L, 0 ≤ v ∧ v ≤ B) → ∀ v ∈ bumps L O, 0 ≤ v ∧ v ≤ B + O.length
  | [], L, B, h, v, hv => by have := h v hv; simp; omega
  | x :: O, L, B, h, v, hv => by
    have := bumps_bd O (bump_bd (x := x) h) v hv
    simp only [List.length_cons]; omega
def prop (C : List Int) (h : Int) : List Int :=
  if sumL C ≤ h then C else bumps (qF h (sumL C) C) ((srt (fun x => (rF h (sumL C) C).getD x.toNat 0) (idxI C.length)).take (h - sumL (qF h (sumL C) C)).toNat)
theorem qF_bd {h s : Int} (hh : 0 ≤ h ∧ h < s) {C : List Int} (hok : okC' C = true) : ∀ v ∈ qF h s C, 0 ≤ v ∧ v ≤ 1099511627776 := by
  intro v hv
  simp only [qF, List.mem_map] at hv
  obtain ⟨c, hc, rfl⟩ := hv
  have := okC_mem hok hc
  refine ⟨Int.ediv_nonneg (Int.mul_nonneg hh.1 this.1) (by omega), ?_⟩
  have : h * c / s ≤ c := Int.ediv_le_of_le_mul (by omega) (by rw [Int.mul_comm c s]; exact Int.mul_le_mul_of_nonneg_right (by omega) this.1)
  omega

end Go.Proofs.YtjgkjenbgadacaaDoor
