/-
  Layer 18 in plain words: parts beside their quotas; weights times a factor.
-/
import Derived.Test.YtoiccjhjfhijpaaSplP
set_option linter.all false
namespace Go.Proofs.Ytoiccjhjfhijpaa

theorem wtd_one {W : List Int} {n : Int} (hs : 0 < sumL W) {i : Nat} (hi : i < W.length) (hi' : i < (wtd W n).length) :
    n * W[i] / sumL W ≤ (wtd W n)[i] ∧ (wtd W n)[i] ≤ n * W[i] / sumL W + 1 ∧ (n * W[i] / sumL W < (wtd W n)[i] → 0 < n * W[i] % sumL W) ∧ (W[i] = 0 → (wtd W n)[i] = 0) := by
  obtain ⟨O, h1, h2, h3, h4⟩ := wtd_spec (C := W) (h := n) hs
  have e := h2 i hi hi'
  have f := h3 i hi
  refine ⟨by rw [e]; split <;> omega, by rw [e]; split <;> omega, fun h => ?_, fun h => ?_⟩
  · refine f (Classical.byContradiction fun q => ?_)
    rw [e, if_neg q] at h; omega
  · rw [e]
    have : ¬ (i : Int) ∈ O := fun q => by
      have := f q
      rw [h] at this; simp at this
    rw [if_neg this, h]; simp
theorem wtd_sum {W : List Int} {n : Int} (hs : 0 < sumL W) : sumL (wtd W n) = n := by
  obtain ⟨O, h1, _⟩ := wtd_spec (C := W) (h := n) hs
  exact h1
theorem wtd_two {W : List Int} {n : Int} (hs : 0 < sumL W) (hn : 0 ≤ n) {i k : Nat} (hi : i < W.length) (hk : k < W.length) (hi' : i < (wtd W n).length) (hk' : k < (wtd W n).length) :
    (W[i] < W[k] → (wtd W n)[i] ≤ (wtd W n)[k]) ∧ (W[k] = W[i] → k < i → (wtd W n)[i] ≤ (wtd W n)[k] ∧ (wtd W n)[k] ≤ (wtd W n)[i] + 1) := by
  obtain ⟨O, h1, h2, h3, h4⟩ := wtd_spec (C := W) (h := n) hs
  have ei := h2 i hi hi'
  have ek := h2 k hk hk'
  have fi := h3 i hi
  have g := h4 i k hi hk
  generalize sumL W = s at *
  refine ⟨fun h => ?_, fun h hik => ?_⟩
  · have d1 := Int.mul_ediv_add_emod (n * W[i]) s
    have d2 := Int.mul_ediv_add_emod (n * W[k]) s
    have r1 := Int.emod_lt_of_pos (n * W[i]) hs
    have r2 := Int.emod_lt_of_pos (n * W[k]) hs
    have r3 := Int.emod_nonneg (n * W[i]) (show s ≠ 0 by omega)
    have r4 := Int.emod_nonneg (n * W[k]) (show s ≠ 0 by omega)
    have hm : n * W[i] ≤ n * W[k] := Int.mul_le_mul_of_nonneg_left (by omega) hn
    have hq : n * W[i] / s ≤ n * W[k] / s := Int.ediv_le_ediv hs hm
    by_cases hO : (i : Int) ∈ O
    · rw [ei, ek, if_pos hO]
      rcases Int.lt_or_le (n * W[i] / s) (n * W[k] / s) with q | q
      · split <;> omega
      · have e : n * W[i] / s = n * W[k] / s := by omega
        rw [e] at d1
        have hr : n * W[i] % s < n * W[k] % s ∨ n * W[i] % s = n * W[k] % s := by omega
        rcases hr with hr | hr
        · rw [if_pos (g hO (.inl hr)), e]; exact Int.le_refl _
        · have p := fi hO
          have hn0 : n = 0 := by
            have e2 : n * W[i] = n * W[k] := by omega
            have e3 : n * (W[k] - W[i]) = 0 := by rw [Int.mul_sub]; omega
            rcases Int.mul_eq_zero.1 e3 with q | q
            · exact q
            · omega
          subst hn0
          simp at p
    · rw [ei, ek, if_neg hO]; split <;> omega
  · rw [ei, ek, h]
    by_cases hO : (i : Int) ∈ O
    · have hr : n * W[i] % s = n * W[k] % s := by rw [h]
      rw [if_pos hO, if_pos (g hO (.inr ⟨hr, hik⟩))]; omega
    · rw [if_neg hO]; split <;> omega

theorem insB_congr {K K' : Int → Int} (h : ∀ x y, bef K x y ↔ bef K' x y) (x : Int) : ∀ l, insB K x l = insB K' x l
  | [] => rfl
  | y :: l => by
    unfold insB
    by_cases q : bef K x y
    · rw [if_pos q, if_pos ((h x y).1 q)]
    · rw [if_neg q, if_neg (fun r => q ((h x y).2 r)), insB_congr h x l]
theorem srt_congr {K K' : Int → Int} (h : ∀ x y, bef K x y ↔ bef K' x y) (l : List Int) : srt K l = srt K' l := by
  have : ∀ k, k ≤ l.length → srt K (l.take k) = srt K' (l.take k) := by
    intro k
    induction k with
    | zero => intro _; rfl
    | succ k ih => intro hk; rw [List.take_succ_eq_append_getElem (by omega), srt_snoc, srt_snoc, ih (by omega), insB_congr h]
  have := this l.length (Nat.le_refl _)
  rwa [List.take_length] at this
theorem sumL_scale (f : Int) : ∀ W : List Int, sumL (W.map fun w => w * f) = sumL W * f
  | [] => by simp
  | w :: W => by simp only [List.map_cons, sumL_cons]; rw [sumL_scale f W, Int.add_mul]
theorem wtd_scale {W : List Int} {f : Int} (hf : 0 < f) (n : Int) : wtd (W.map fun w => w * f) n = wtd W n := by
  have hs := sumL_scale f W
  have q1 : ∀ w : Int, n * (w * f) / (sumL W * f) = n * w / sumL W := fun w => by rw [← Int.mul_assoc, Int.mul_ediv_mul_of_pos_left _ _ hf]
  have q2 : ∀ w : Int, n * (w * f) % (sumL W * f) = n * w % sumL W * f := fun w => by
    rw [← Int.mul_assoc, Int.mul_comm (n * w) f, Int.mul_comm (sumL W) f, Int.mul_emod_mul_of_pos _ _ hf, Int.mul_comm f]
  have eq : qF n (sumL W * f) (W.map fun w => w * f) = qF n (sumL W) W := by
    unfold qF; rw [List.map_map]; exact List.map_congr_left fun w _ => q1 w
  have er : rF n (sumL W * f) (W.map fun w => w * f) = (rF n (sumL W) W).map fun r => r * f := by
    unfold rF; rw [List.map_map, List.map_map]; exact List.map_congr_left fun w _ => q2 w
  have ek : ∀ x, kR ((rF n (sumL W) W).map fun r => r * f) x = kR (rF n (sumL W) W) x * f := fun x => by
    unfold kR
    rw [List.getD_eq_getElem?_getD, List.getD_eq_getElem?_getD, List.getElem?_map]
    cases (rF n (sumL W) W)[x.toNat]? with
    | none => simp
    | some r => simp
  have eb : ∀ x y, bef (kR ((rF n (sumL W) W).map fun r => r * f)) x y ↔ bef (kR (rF n (sumL W) W)) x y := fun x y => by
    unfold bef
    rw [ek, ek]
    generalize kR (rF n (sumL W) W) x = a
    generalize kR (rF n (sumL W) W) y = b
    constructor
    · rintro (h | ⟨h, h'⟩)
      · exact .inl (Int.lt_of_mul_lt_mul_right h (by omega))
      · exact .inr ⟨Int.eq_of_mul_eq_mul_right (by omega) h, h'⟩
    · rintro (h | ⟨h, h'⟩)
      · exact .inl (Int.mul_lt_mul_of_pos_right h hf)
      · exact .inr ⟨by rw [h], h'⟩
  unfold wtd
  rw [hs, eq, er, srt_congr eb, List.length_map]

end Go.Proofs.Ytoiccjhjfhijpaa
