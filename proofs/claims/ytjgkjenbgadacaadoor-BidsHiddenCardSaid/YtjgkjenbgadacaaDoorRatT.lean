/-
  Layer 39 in plain words: what sharing in proportion gives.
-/
import Derived.Test.YtjgkjenbgadacaaDoorRatQ
set_option linter.all false
namespace Go.Proofs.YtjgkjenbgadacaaDoor

theorem sumL_perm {a b : List Int} (h : a.Perm b) : sumL a = sumL b := by
  induction h with
  | nil => rfl
  | cons x _ ih => simp [ih]
  | swap x y l => simp; omega
  | trans _ _ ih1 ih2 => rw [ih1, ih2]
/-- What stands at a place among the remainders. -/
def kR (R : List Int) (x : Int) : Int := R.getD x.toNat 0
theorem map_idx (R : List Int) : (idxI R.length).map (kR R) = R := by
  refine List.ext_getElem (by simp [idxI]) fun i h1 h2 => ?_
  simp only [List.getElem_map, idxI, List.getElem_range, kR, Int.toNat_natCast]
  rw [List.getD_eq_getElem?_getD, List.getElem?_eq_getElem h2]; rfl
theorem sum_zero : ∀ {l : List Int}, (∀ x ∈ l, x = 0) → sumL l = 0
  | [], _ => rfl
  | x :: l, h => by rw [sumL_cons, h x (by simp), sum_zero (l := l) fun y hy => h y (by simp [hy])]; rfl
theorem sum_le {B : Int} (hB : 0 ≤ B) : ∀ {l : List Int}, (∀ x ∈ l, x ≤ B) → sumL l ≤ l.length * B
  | [], _ => by simp
  | x :: l, h => by
    have h1 := h x (by simp)
    have ih := sum_le hB (l := l) fun y hy => h y (by simp [hy])
    rw [sumL_cons, List.length_cons, show ((l.length + 1 : Nat) : Int) * B = l.length * B + B by rw [Int.natCast_add, Int.add_mul]; simp]; omega
theorem sum_less {B : Int} (hB : 0 ≤ B) : ∀ {l : List Int}, (∀ x ∈ l, x ≤ B) → (∃ x ∈ l, x ≤ 0) → sumL l + B ≤ l.length * B
  | [], _, h => by obtain ⟨x, hx, _⟩ := h; cases hx
  | x :: l, h, h2 => by
    have h1 := h x (by simp)
    have e : ((l.length + 1 : Nat) : Int) * B = l.length * B + B := by rw [Int.natCast_add, Int.add_mul]; simp
    rw [sumL_cons, List.length_cons, e]
    obtain ⟨y, hy, hy0⟩ := h2
    rcases List.mem_cons.1 hy with rfl | hy
    · have := sum_le hB (l := l) fun z hz => h z (by simp [hz]); omega
    · have := sum_less hB (l := l) (fun z hz => h z (by simp [hz])) ⟨y, hy, hy0⟩; omega
/-- Who gets one coin more has a remainder. -/
theorem more_pos {R : List Int} {s : Int} {m : Nat} (hs : 0 < s) (hR : ∀ r ∈ R, 0 ≤ r ∧ r < s) (hsum : sumL R = s * m) {x : Int} (hx : x ∈ (srt (kR R) (idxI R.length)).take m) : 0 < kR R x := by
  obtain ⟨O, hO⟩ : ∃ O, srt (kR R) (idxI R.length) = O := ⟨_, rfl⟩
  rw [hO] at hx
  have hp : O.Perm (idxI R.length) := by rw [← hO]; exact srt_perm _ _
  have hso : O.Pairwise (bef (kR R)) := by rw [← hO]; exact srt_sorted (idxI_nodup _)
  have hkb : ∀ y ∈ O, 0 ≤ kR R y ∧ kR R y < s := fun y hy => by
    have := idxI_mem.1 (hp.mem_iff.1 hy)
    have hl : y.toNat < R.length := by omega
    have e : kR R y = R[y.toNat] := by unfold kR; rw [List.getD_eq_getElem?_getD, List.getElem?_eq_getElem hl]; rfl
    rw [e]; exact hR _ (List.getElem_mem hl)
  have e1 : sumL (O.map (kR R)) = s * m := by rw [← hsum, sumL_perm (hp.map _), map_idx]
  rcases Int.lt_or_le 0 (kR R x) with h | h
  · exact h
  · exfalso
    have hxo : x ∈ O := List.mem_of_mem_take hx
    have e2 : O.map (kR R) = (O.take m).map (kR R) ++ (O.drop m).map (kR R) := by rw [← List.map_append, List.take_append_drop]
    have hz : sumL ((O.drop m).map (kR R)) = 0 := by
      refine sum_zero fun v hv => ?_
      obtain ⟨y, hy, rfl⟩ := List.mem_map.1 hv
      have hso' := hso
      rw [← List.take_append_drop m O, List.pairwise_append] at hso'
      have := hso'.2.2 x hx y hy
      have h2 := hkb y (List.mem_of_mem_drop hy)
      unfold bef at this; omega
    have hl := sum_less (B := s - 1) (by omega) (l := (O.take m).map (kR R)) (fun v hv => by
      obtain ⟨y, hy, rfl⟩ := List.mem_map.1 hv
      have := hkb y (List.mem_of_mem_take hy); omega) ⟨kR R x, List.mem_map.2 ⟨x, hx, rfl⟩, h⟩
    rw [e2, sumL_app, hz] at e1
    have hlen : ((O.take m).map (kR R)).length ≤ m := by simp; omega
    have h3 : (((O.take m).map (kR R)).length : Int) * (s - 1) ≤ m * (s - 1) := Int.mul_le_mul_of_nonneg_right (by omega) (by omega)
    have h4 : (m : Int) * (s - 1) = s * m - m := by rw [Int.mul_sub, Int.mul_comm]; omega
    have hx0 : 0 < m := by
      rcases Nat.eq_zero_or_pos m with rfl | h
      · simp at hx
      · exact h
    omega
/-- What a bumped row holds. -/
theorem bumps_at : ∀ (O L : List Int) (i : Nat) (h : i < L.length) (h' : i < (bumps L O).length), O.Nodup → (∀ x ∈ O, 0 ≤ x) → (bumps L O)[i] = L[i] + (if (i : Int) ∈ O then 1 else 0)
  | [], L, i, h, h', _, _ => by simp [bumps]
  | x :: O, L, i, h, h', hn, h0 => by
    rw [List.nodup_cons] at hn
    have hx := h0 x (by simp)
    have e : (bumps L (x :: O))[i] = (bumps (bump L x) O)[i]'(by rw [bumps_len, bump_len]; exact h) := rfl
    rw [e, bumps_at O (bump L x) i (by rw [bump_len]; exact h) (by rw [bumps_len, bump_len]; exact h) hn.2 fun y hy => h0 y (by simp [hy])]
    simp only [bump, List.getElem_set]
    by_cases hxi : x.toNat = i
    · have hxe : x = (i : Int) := by omega
      rw [if_pos hxi, hxi, List.getD_eq_getElem?_getD, List.getElem?_eq_getElem h, if_neg (by rw [← hxe]; exact hn.1), if_pos (by rw [hxe]; simp)]
      simp
    · rw [if_neg hxi]
      have : (i : Int) ∈ x :: O ↔ (i : Int) ∈ O := by
        rw [List.mem_cons]; constructor
        · rintro (h | h)
          · omega
          · exact h
        · exact .inr
      simp only [this]
theorem bumps_sum : ∀ (O L : List Int), (∀ x ∈ O, 0 ≤ x ∧ x < L.length) → sumL (bumps L O) = sumL L + O.length
  | [], L, _ => by simp [bumps]
  | x :: O, L, h => by
    have hx := h x (by simp)
    have e : bumps L (x :: O) = bumps (bump L x) O := rfl
    have hs : sumL (bump L x) = sumL L + 1 := by
      have hl : x.toNat < L.length := by omega
      unfold bump
      rw [List.getD_eq_getElem?_getD, List.getElem?_eq_getElem hl, List.set_eq_take_append_cons_drop, if_pos hl]
      conv => rhs; rw [← List.take_append_drop x.toNat L]
      rw [sumL_app, sumL_app, List.drop_eq_getElem_cons hl, sumL_cons, sumL_cons]
      simp; omega
    rw [e, bumps_sum O (bump L x) fun y hy => by rw [bump_len]; exact h y (by simp [hy]), hs]; simp; omega

end Go.Proofs.YtjgkjenbgadacaaDoor
