/-
  Layer 35 in plain words: what the laws say of drawn juries and of verdicts.
-/
import Derived.Test.YtflcmfeafiippaaJuryG
set_option linter.all false
namespace Go.Proofs.Ytflcmfeafiippaa
open Go.RowKit Go.Ab

theorem okM_spec {M : List Int} (h : okM M = true) : 0 < M.length ∧ M.length ≤ 60 ∧ M.Nodup ∧ ∀ x ∈ M, 0 ≤ x ∧ x < 200 := by
  simp only [okM, Bool.and_eq_true, decide_eq_true_eq, List.all_eq_true] at h
  refine ⟨h.1.1.1, by omega, h.2, fun x hx => ?_⟩
  have := h.1.2 x hx
  simp [inK] at this
  omega
theorem jbad_of {M : List Int} {s : Int} (h : okM M = true) (h1 : 1 ≤ s) (h2 : s ≤ 60) : jbad M s = false := by
  simp [jbad, h]; omega
theorem jdr_ok {M : List Int} {s : Int} (h : okM M = true) (h1 : 1 ≤ s) (h2 : s ≤ 60) (B : List Int) (seed : Int) : jdr M s B seed = pickL (canL M B) s seed := if_neg (by simp [jbad_of h h1 h2])
theorem jde_0 {M B : List Int} {s : Int} (h : okM M = true) (h1 : 1 ≤ s) (h2 : s ≤ 60) (hc : canL M B ≠ []) : jde M s B = 0 := by rw [jde, if_neg (by simp [jbad_of h h1 h2]), if_neg hc]
theorem jde_24 {M B : List Int} {s : Int} (h : okM M = true) (h1 : 1 ≤ s) (h2 : s ≤ 60) (hc : canL M B = []) : jde M s B = 24 := by rw [jde, if_neg (by simp [jbad_of h h1 h2]), if_pos hc]
theorem can_nodup {M : List Int} (h : M.Nodup) (B : List Int) : (canL M B).Nodup := h.sublist List.filter_sublist
theorem can_mem {M B : List Int} {x : Int} : x ∈ canL M B ↔ x ∈ M ∧ x ∉ B := by simp [canL]
theorem drawn_pick {M : List Int} (h : M.Nodup) (B : List Int) (s seed : Int) : drawnB (pickL (canL M B) s seed) M B = true := by
  simp only [drawnB, Bool.and_eq_true, List.all_eq_true, Bool.not_eq_true', decide_eq_true_eq, decide_eq_false_iff_not]
  exact ⟨fun x hx => can_mem.1 (pick_mem hx), pick_nodup (can_nodup h B) s seed⟩
theorem can_neg5 {M : List Int} (h : ∀ x ∈ M, 0 ≤ x ∧ x < 200) (B : List Int) : canL M (-5 :: (B ++ B)) = canL M B := by
  unfold canL
  apply List.filter_congr
  intro x hx
  have := h x hx
  have h5 : ¬ x = -5 := by omega
  simp [h5]
theorem can_app (M B l : List Int) : canL M (B ++ l) = (canL M B).filter fun x => !decide (x ∈ l) := by
  unfold canL
  rw [List.filter_filter]
  apply List.filter_congr
  intro x _
  by_cases h1 : x ∈ B <;> by_cases h2 : x ∈ l <;> simp [h1, h2]
theorem minus_len : ∀ {C l : List Int}, C.Nodup → l.Nodup → (∀ x ∈ l, x ∈ C) → (C.filter fun x => !decide (x ∈ l)).length = C.length - l.length
  | C, [], _, _, _ => by simp
  | C, a :: l, hC, hl, hs => by
    rw [List.nodup_cons] at hl
    have ha := hs a (by simp)
    have ih := minus_len (C := C.erase a) (l := l) (hC.erase a) hl.2 fun x hx => by
      have : x ≠ a := by rintro rfl; exact hl.1 hx
      exact (List.mem_erase_of_ne this).2 (hs x (by simp [hx]))
    rw [List.length_erase_of_mem ha] at ih
    have e : (C.filter fun x => !decide (x ∈ a :: l)) = (C.erase a).filter fun x => !decide (x ∈ l) := by
      rw [hC.erase_eq_filter, List.filter_filter]
      apply List.filter_congr
      intro x _
      by_cases h1 : x = a <;> by_cases h2 : x ∈ l <;> simp [h1, h2]
    rw [e, ih]
    simp only [List.length_cons]
    omega

theorem yN_snoc {L : List Int} (hn : L.Nodup) {vs : List V} {v : V} (hv : v.who ∈ L) (h : v.who ∉ vs.map V.who) : yN L (vs ++ [v]) = yN L vs + (if v.yes then 1 else 0) ∧ nN L (vs ++ [v]) = nN L vs + (if v.yes then 0 else 1) := by
  have h0 := fst1_none.2 h
  have hx : fst1 v.who (vs ++ [v]) = some v := by rw [fst1_app, h0]; simp [fst1]
  have ho : ∀ w, w ≠ v.who → fst1 w (vs ++ [v]) = fst1 w vs := fun w hw => by
    have : fst1 w [v] = none := by simp [fst1]; exact fun e => hw e.symm
    rw [fst1_app, this]; cases fst1 w vs <;> rfl
  constructor
  · unfold yN
    rw [countP_one hn hv (q := yP vs) (fun w _ hw => by unfold yP; rw [ho w hw]) (by simp [yP, h0])]
    simp [yP, hx]
  · unfold nN
    rw [countP_one hn hv (q := nP vs) (fun w _ hw => by unfold nP; rw [ho w hw]) (by simp [nP, h0])]
    cases hy : v.yes <;> simp [nP, hx, hy]
/-- The voices of the first k, and how many of them say yes. -/
def vk (L : List Int) (Y : List Bool) (k : Nat) : List V := (List.range k).map fun i => ⟨0, L.getD i 0, Y.getD i false, (i : Int)⟩
def tk' (Y : List Bool) (k : Nat) : Nat := (Y.take k).countP id
theorem vk_0 (L : List Int) (Y : List Bool) : vk L Y 0 = [] := rfl
theorem vk_len (L : List Int) (Y : List Bool) (k : Nat) : (vk L Y k).length = k := by simp [vk]
theorem vk_succ {L : List Int} {Y : List Bool} {k : Nat} (h : k < L.length) (h2 : k < Y.length) : vk L Y (k + 1) = vk L Y k ++ [⟨0, L[k], Y[k], (k : Int)⟩] := by
  unfold vk
  rw [List.range_succ, List.map_append]
  simp [h, h2]
theorem tk_succ {Y : List Bool} {k : Nat} (h : k < Y.length) : tk' Y (k + 1) = tk' Y k + if Y[k] then 1 else 0 := by
  unfold tk'
  rw [List.take_succ_eq_append_getElem h, List.countP_append]
  simp
theorem tk_le (Y : List Bool) (k : Nat) : tk' Y k ≤ k := by
  unfold tk'
  have := List.countP_le_length (p := id) (l := Y.take k)
  rw [List.length_take] at this
  omega
theorem vk_who {L : List Int} {Y : List Bool} {k : Nat} (hk : k ≤ L.length) {x : Int} (h : x ∈ (vk L Y k).map V.who) : x ∈ L.take k := by
  simp only [vk, List.map_map, List.mem_map, List.mem_range, Function.comp] at h
  obtain ⟨i, hi, rfl⟩ := h
  rw [getD_lt (by omega)]
  exact List.mem_take_iff_getElem.2 ⟨i, by omega, rfl⟩
theorem vk_count {L : List Int} (hn : L.Nodup) {Y : List Bool} (hY : L.length ≤ Y.length) : ∀ k, k ≤ L.length → yN L (vk L Y k) = tk' Y k ∧ nN L (vk L Y k) + tk' Y k = k
  | 0, _ => by
    have h1 : yN L [] = 0 := List.countP_eq_zero.2 (by simp [yP, fst1])
    have h2 : nN L [] = 0 := List.countP_eq_zero.2 (by simp [nP, fst1])
    rw [vk_0, h1, h2]; simp [tk']
  | k + 1, hk => by
    have hkl : k < L.length := by omega
    obtain ⟨h1, h2⟩ := vk_count hn hY k (by omega)
    have hno : L[k] ∉ (vk L Y k).map V.who := fun hm => by
      obtain ⟨j, hj, e⟩ := List.mem_take_iff_getElem.1 (vk_who (by omega) hm)
      have := (List.getElem_inj hn).1 e
      omega
    have hs := yN_snoc hn (v := ⟨0, L[k], Y[k]'(by omega), (k : Int)⟩) (List.getElem_mem hkl) hno
    rw [vk_succ hkl (by omega), hs.1, hs.2, tk_succ (by omega), h1]
    refine ⟨rfl, ?_⟩
    simp only []
    split <;> omega
theorem verd_few {n y m : Int} (h : 0 ≤ y ∧ 0 ≤ m) (h2 : 2 * (y + m) < n) : verd n y m = 0 := by
  unfold verd
  rw [if_neg (by omega), if_neg (by omega)]
theorem verd_all {n y m : Int} (h : y + m = n) : verd n y m = if n < 2 * y then 1 else 2 := by
  unfold verd
  split
  · rfl
  · rw [if_pos (by omega)]

end Go.Proofs.Ytflcmfeafiippaa
