/-
  Layer 18 in plain words: weights, and dividing by the greatest remainders.
-/
import Derived.Test.YtjgkjenbgadacaaDoorRatT
set_option linter.all false
namespace Go.Proofs.YtjgkjenbgadacaaDoor

def inW (w : Int) : Bool := decide (0 ≤ w) && decide (w ≤ 1048576)
def okW (W : List Int) : Bool := W.all inW && decide (W.length ≤ 60)
def wsum (W : List Int) : Int := if okW W then sumL W else 0
def isAm (n : Int) : Bool := decide (0 ≤ n) && decide (n ≤ 1099511627776)
theorem inW_iff {w : Int} : inW w = true ↔ 0 ≤ w ∧ w ≤ 1048576 := by simp [inW]
theorem okW_mem {W : List Int} (h : okW W = true) {w : Int} (hw : w ∈ W) : 0 ≤ w ∧ w ≤ 1048576 := by
  simp only [okW, Bool.and_eq_true, List.all_eq_true] at h
  exact inW_iff.1 (h.1 w hw)
theorem okW_len {W : List Int} (h : okW W = true) : W.length ≤ 60 := by
  simp only [okW, Bool.and_eq_true, decide_eq_true_eq] at h
  exact h.2
theorem sumW_bd : ∀ {W : List Int}, W.all inW = true → 0 ≤ sumL W ∧ sumL W ≤ W.length * 1048576
  | [], _ => by simp
  | w :: W, h => by
    simp only [List.all_cons, Bool.and_eq_true] at h
    have ih := sumW_bd h.2
    have := inW_iff.1 h.1
    simp only [sumL_cons, List.length_cons]; push_cast; omega
theorem okW_sum {W : List Int} (h : okW W = true) : 0 ≤ sumL W ∧ sumL W ≤ 62914560 := by
  have h1 := okW_len h
  simp only [okW, Bool.and_eq_true] at h
  have := sumW_bd h.1
  omega
theorem wsum_pos {W : List Int} (h : wsum W ≠ 0) : okW W = true ∧ wsum W = sumL W ∧ 0 < sumL W := by
  unfold wsum at *
  by_cases hk : okW W = true
  · rw [if_pos hk] at h ⊢
    have := okW_sum hk
    exact ⟨hk, rfl, by omega⟩
  · rw [if_neg hk] at h; exact absurd rfl h
theorem wsum_bd (W : List Int) : 0 ≤ wsum W ∧ wsum W ≤ 62914560 := by
  unfold wsum
  split
  · rename_i h; exact okW_sum h
  · omega
theorem all_succ {W : List Int} {k : Nat} (h : k < W.length) (h1 : (W.take k).all inW = true) (h2 : inW W[k] = true) : (W.take (k + 1)).all inW = true := by
  rw [List.take_succ_eq_append_getElem h, List.all_append, h1]; simp [h2]
theorem okW_bad {W : List Int} {k : Nat} (h : k < W.length) (h2 : inW W[k] = false) : wsum W = 0 := by
  unfold wsum
  rw [if_neg]
  intro hk
  simp only [okW, Bool.and_eq_true, List.all_eq_true] at hk
  have := hk.1 W[k] (List.getElem_mem h)
  rw [h2] at this; cases this

/-- What dividing by the greatest remainders gives. -/
def wtd (W : List Int) (n : Int) : List Int :=
  bumps (qF n (sumL W) W) ((srt (kR (rF n (sumL W) W)) (idxI W.length)).take (n - sumL (qF n (sumL W) W)).toNat)
theorem wtd_len (W : List Int) (n : Int) : (wtd W n).length = W.length := by unfold wtd; rw [bumps_len, qF_len]
theorem wtd_spec {C : List Int} {h : Int} (hs0 : 0 < sumL C) :
    ∃ W : List Int, sumL (wtd C h) = h ∧ (∀ i (hi : i < C.length) (hi' : i < (wtd C h).length), (wtd C h)[i] = h * C[i] / sumL C + if (i : Int) ∈ W then 1 else 0) ∧
      (∀ i (hi : i < C.length), (i : Int) ∈ W → 0 < h * C[i] % sumL C) ∧
      (∀ i k (hi : i < C.length) (hk : k < C.length), (i : Int) ∈ W → (h * C[i] % sumL C < h * C[k] % sumL C ∨ (h * C[i] % sumL C = h * C[k] % sumL C ∧ k < i)) → (k : Int) ∈ W) := by
  have hlb := left_bd (h := h) hs0
  unfold wtd
  have hqr := qr_sum h (sumL C) C
  generalize sumL C = s at *
  obtain ⟨m, hm⟩ : ∃ m : Nat, (m : Int) = h - sumL (qF h s C) := ⟨(h - sumL (qF h s C)).toNat, by omega⟩
  rw [show (h - sumL (qF h s C)).toNat = m by omega]
  have hRl := rF_len h s C
  have hRb : ∀ r ∈ rF h s C, 0 ≤ r ∧ r < s := fun r hr => by
    simp only [rF, List.mem_map] at hr
    obtain ⟨c, _, rfl⟩ := hr
    exact ⟨Int.emod_nonneg _ (by omega), Int.emod_lt_of_pos _ hs0⟩
  have hsum : sumL (rF h s C) = s * m := by rw [hm, Int.mul_sub, Int.mul_comm s h]; omega
  have hkr : ∀ i (hi : i < C.length), kR (rF h s C) (i : Int) = h * C[i] % s := fun i hi => by
    unfold kR
    rw [Int.toNat_natCast, List.getD_eq_getElem?_getD, List.getElem?_eq_getElem (by rw [rF_len]; exact hi)]
    simp [rF]
  have hmp := fun x => more_pos (R := rF h s C) (m := m) hs0 hRb hsum (x := x)
  rw [hRl] at hmp
  have hp := srt_perm (kR (rF h s C)) (idxI C.length)
  have hso := srt_sorted (K := kR (rF h s C)) (idxI_nodup C.length)
  generalize srt (kR (rF h s C)) (idxI C.length) = O at *
  have hOm : ∀ x ∈ O, 0 ≤ x ∧ x < C.length := fun x hx => idxI_mem.1 (hp.mem_iff.1 hx)
  have hOn : O.Nodup := hp.nodup_iff.2 (idxI_nodup _)
  have hOl : O.length = C.length := by rw [hp.length_eq, idxI_len]
  refine ⟨O.take m, ?_, ?_, ?_, ?_⟩
  · rw [bumps_sum _ _ fun x hx => by rw [qF_len]; exact hOm x (List.mem_of_mem_take hx), List.length_take]
    omega
  · intro i hi hi'
    rw [bumps_at _ _ i (by rw [qF_len]; exact hi) hi' (hOn.sublist (List.take_sublist _ _)) fun x hx => (hOm x (List.mem_of_mem_take hx)).1]
    simp [qF]
  · intro i hi hx
    have := hmp i hx
    rwa [hkr i hi] at this
  · intro i k hi hk hx hb
    have hkO : (k : Int) ∈ O := hp.mem_iff.2 (idxI_mem.2 ⟨by omega, by omega⟩)
    rw [← List.take_append_drop m O] at hkO
    rcases List.mem_append.1 hkO with h1 | h1
    · exact h1
    · exfalso
      rw [← List.take_append_drop m O, List.pairwise_append] at hso
      have := hso.2.2 _ hx _ h1
      unfold bef at this
      rw [hkr i hi, hkr k hk] at this
      omega

/-- The quota by the whole and the rest. -/
theorem quo_split {n w s : Int} (hs : 0 < s) : n / s * w + n % s * w / s = n * w / s ∧ n % s * w % s = n * w % s := by
  have e : n * w = n % s * w + s * (n / s * w) := by
    have := Int.mul_ediv_add_emod n s
    rw [← Int.mul_assoc, ← Int.add_mul]
    congr 1; omega
  constructor
  · rw [e, Int.add_mul_ediv_left _ _ (by omega)]; omega
  · rw [e, Int.add_mul_emod_self_left]
theorem quo_bd {n w s : Int} (hn : 0 ≤ n ∧ n ≤ 1099511627776) (hw : 0 ≤ w ∧ w ≤ 1048576) (hs : 0 < s ∧ s ≤ 62914560) :
    0 ≤ n / s ∧ n / s ≤ 1099511627776 ∧ 0 ≤ n % s ∧ n % s < s ∧ 0 ≤ n / s * w ∧ n / s * w ≤ 1099511627776 * 1048576 ∧ 0 ≤ n % s * w ∧ n % s * w ≤ 62914560 * 1048576 ∧ 0 ≤ n % s * w / s ∧ n % s * w / s ≤ 62914560 * 1048576 := by
  have h1 := Int.ediv_nonneg hn.1 (show 0 ≤ s by omega)
  have h2 := Int.ediv_le_self s hn.1
  have h3 := Int.emod_nonneg n (show s ≠ 0 by omega)
  have h4 := Int.emod_lt_of_pos n hs.1
  have h5 := Int.mul_nonneg h1 hw.1
  have h6 : n / s * w ≤ 1099511627776 * 1048576 := Int.mul_le_mul (by omega) hw.2 hw.1 (by omega)
  have h7 := Int.mul_nonneg h3 hw.1
  have h8 : n % s * w ≤ 62914560 * 1048576 := Int.mul_le_mul (by omega) hw.2 hw.1 (by omega)
  have h9 := Int.ediv_nonneg h7 (show 0 ≤ s by omega)
  have h10 := Int.ediv_le_self s h7
  exact ⟨h1, by omega, h3, h4, h5, h6, h7, h8, h9, by omega⟩
/-- With weights that are weights of a sum, a quota is at most the amount. -/
theorem quo_le {n w s : Int} (hn : 0 ≤ n) (hw : 0 ≤ w ∧ w ≤ s) (hs : 0 < s) : 0 ≤ n * w / s ∧ n * w / s ≤ n :=
  ⟨Int.ediv_nonneg (Int.mul_nonneg hn hw.1) (by omega), Int.ediv_le_of_le_mul hs (Int.mul_le_mul_of_nonneg_left hw.2 hn)⟩
theorem mem_sum {W : List Int} (h : ∀ w ∈ W, 0 ≤ w) : ∀ {w : Int}, w ∈ W → w ≤ sumL W := by
  induction W with
  | nil => intro w hw; cases hw
  | cons a W ih =>
    intro w hw
    have h0 : 0 ≤ sumL W := by
      clear ih hw
      induction W with
      | nil => simp
      | cons b W ih => have := h b (by simp); have := ih (fun x hx => h x (by rcases List.mem_cons.1 hx with q | q <;> simp [q])); simp only [sumL_cons]; omega
    have ha := h a (by simp)
    rcases List.mem_cons.1 hw with q | q
    · subst q; simp only [sumL_cons]; omega
    · have := ih (fun x hx => h x (List.mem_cons_of_mem _ hx)) q; simp only [sumL_cons]; omega
theorem qF_in {W : List Int} {n : Int} (hok : okW W = true) (hn : 0 ≤ n) (hs : 0 < sumL W) : ∀ q ∈ qF n (sumL W) W, 0 ≤ q ∧ q ≤ n := by
  intro q hq
  simp only [qF, List.mem_map] at hq
  obtain ⟨w, hw, rfl⟩ := hq
  exact quo_le hn ⟨(okW_mem hok hw).1, mem_sum (fun x hx => (okW_mem hok hx).1) hw⟩ hs

end Go.Proofs.YtjgkjenbgadacaaDoor
