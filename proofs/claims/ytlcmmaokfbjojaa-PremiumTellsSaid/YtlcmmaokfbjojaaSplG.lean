/-
  Layer 18 in plain words: the quota method.
-/
import Derived.Test.YtlcmmaokfbjojaaSplP
set_option linter.all false
namespace Go.Proofs.Ytlcmmaokfbjojaa

def sumN : Nat → (Nat → Int) → Int
  | 0, _ => 0
  | n + 1, f => sumN n f + f n
theorem sumN_le {f g : Nat → Int} : ∀ {n : Nat}, (∀ i, i < n → f i ≤ g i) → sumN n f ≤ sumN n g
  | 0, _ => by simp [sumN]
  | n + 1, h => by
    have := sumN_le (n := n) fun i hi => h i (by omega)
    have := h n (by omega)
    simp only [sumN]; omega
theorem sumN_congr {f g : Nat → Int} {n : Nat} (h : ∀ i, i < n → f i = g i) : sumN n f = sumN n g :=
  Int.le_antisymm (sumN_le fun i hi => Int.le_of_eq (h i hi)) (sumN_le fun i hi => Int.le_of_eq (h i hi).symm)
theorem sumN_mul (c : Int) (f : Nat → Int) : ∀ n : Nat, sumN n (fun i => c * f i) = c * sumN n f
  | 0 => by simp [sumN]
  | n + 1 => by simp only [sumN]; rw [sumN_mul c f n, Int.mul_add]
theorem sumN_upd {f g : Nat → Int} : ∀ {n k : Nat}, k < n → (∀ i, i < n → i ≠ k → g i = f i) → sumN n g = sumN n f + (g k - f k)
  | n + 1, k, hk, h => by
    simp only [sumN]
    by_cases e : k = n
    · subst e
      rw [sumN_congr (f := g) (g := f) fun i hi => h i (by omega) (by omega)]; omega
    · rw [sumN_upd (n := n) (k := k) (by omega) fun i hi hne => h i (by omega) hne, h n (by omega) (fun q => e q.symm)]; omega
def gt (L : List Int) (i : Nat) : Int := L.getD i 0
theorem gt_at {L : List Int} {i : Nat} (h : i < L.length) : gt L i = L[i] := by unfold gt; rw [List.getD_eq_getElem?_getD, List.getElem?_eq_getElem h]; rfl
theorem gt_set {L : List Int} {i k : Nat} {v : Int} (hk : k < L.length) : gt (L.set k v) i = if i = k then v else gt L i := by
  unfold gt
  rw [List.getD_eq_getElem?_getD, List.getD_eq_getElem?_getD, List.getElem?_set]
  by_cases e : k = i
  · rw [if_pos e, if_pos e.symm, if_pos hk]; rfl
  · rw [if_neg e, if_neg (fun q => e q.symm)]
theorem sumL_N : ∀ L : List Int, sumL L = sumN L.length (gt L) := by
  intro L
  have : ∀ k, k ≤ L.length → sumL (L.take k) = sumN k (gt L) := by
    intro k
    induction k with
    | zero => intro _; rfl
    | succ k ih => intro hk; rw [sumL_succ (by omega), ih (by omega), sumN, gt_at (by omega)]
  have h := this L.length (Nat.le_refl _)
  rwa [List.take_length] at h

/-- The part that gets a coin, of the first k. -/
def bst (W H : List Int) (t s : Int) : Nat → Int
  | 0 => -1
  | k + 1 => if t * gt W k ≤ gt H k * s then bst W H t s k
    else if bst W H t s k < 0 ∨ gt W (bst W H t s k).toNat * (gt H k + 1) < gt W k * (gt H (bst W H t s k).toNat + 1) then k else bst W H t s k

theorem bst_lt (W H : List Int) (t s : Int) : ∀ k : Nat, -1 ≤ bst W H t s k ∧ bst W H t s k < k
  | 0 => by simp [bst]
  | k + 1 => by
    have := bst_lt W H t s k
    simp only [bst]
    split
    · omega
    · split <;> omega
theorem cross {w a wb ab wk ak : Int} (ha : 0 ≤ a) (hab : 0 < ab) (hak : 0 ≤ ak) (h1 : w * ab ≤ wb * a) (h2 : wb * ak < wk * ab) : w * ak ≤ wk * a := by
  have e1 : w * ab * ak ≤ wb * a * ak := Int.mul_le_mul_of_nonneg_right h1 hak
  have e2 : wb * ak * a ≤ wk * ab * a := Int.mul_le_mul_of_nonneg_right (Int.le_of_lt h2) ha
  have e3 : w * ak * ab ≤ wk * a * ab := by
    have a1 : w * ak * ab = w * ab * ak := by rw [Int.mul_assoc, Int.mul_comm ak ab, ← Int.mul_assoc]
    have a2 : wb * a * ak = wb * ak * a := by rw [Int.mul_assoc, Int.mul_comm a ak, ← Int.mul_assoc]
    have a3 : wk * a * ab = wk * ab * a := by rw [Int.mul_assoc, Int.mul_comm a ab, ← Int.mul_assoc]
    rw [a1, a3]; omega
  exact Int.le_of_mul_le_mul_right e3 hab
theorem bst_best {W H : List Int} {t s : Int} (hH : ∀ i, 0 ≤ gt H i) : ∀ k : Nat,
    (∀ i, i < k → gt H i * s < t * gt W i → 0 ≤ bst W H t s k) ∧
    (0 ≤ bst W H t s k → gt H (bst W H t s k).toNat * s < t * gt W (bst W H t s k).toNat ∧ ∀ i, i < k → gt H i * s < t * gt W i → gt W i * (gt H (bst W H t s k).toNat + 1) ≤ gt W (bst W H t s k).toNat * (gt H i + 1))
  | 0 => by simp [bst]
  | k + 1 => by
    obtain ⟨ih1, ih2⟩ := bst_best hH k
    simp only [bst]
    by_cases h1 : t * gt W k ≤ gt H k * s
    · rw [if_pos h1]
      refine ⟨fun i hi he => ?_, fun h0 => ⟨(ih2 h0).1, fun i hi he => ?_⟩⟩
      · by_cases e : i = k
        · subst e; omega
        · exact ih1 i (by omega) he
      · by_cases e : i = k
        · subst e; omega
        · exact (ih2 h0).2 i (by omega) he
    · rw [if_neg h1]
      by_cases h2 : bst W H t s k < 0 ∨ gt W (bst W H t s k).toNat * (gt H k + 1) < gt W k * (gt H (bst W H t s k).toNat + 1)
      · rw [if_pos h2]
        refine ⟨fun _ _ _ => by omega, fun _ => ?_⟩
        rw [Int.toNat_natCast]
        refine ⟨by omega, fun i hi he => ?_⟩
        by_cases e : i = k
        · subst e; exact Int.le_refl _
        · have h0 := ih1 i (by omega) he
          have hb := (ih2 h0).2 i (by omega) he
          rcases h2 with h2 | h2
          · omega
          · have p1 := hH i
            have p2 := hH k
            have p3 := hH (bst W H t s k).toNat
            exact cross (by omega) (by omega) (by omega) hb h2
      · rw [if_neg h2]
        have h0 : 0 ≤ bst W H t s k := by omega
        refine ⟨fun _ _ _ => h0, fun _ => ⟨(ih2 h0).1, fun i hi he => ?_⟩⟩
        by_cases e : i = k
        · subst e; omega
        · exact (ih2 h0).2 i (by omega) he

/-- What the parts have after t coins. -/
def giv (W : List Int) : Nat → List Int
  | 0 => List.replicate W.length 0
  | t + 1 => (giv W t).set (bst W (giv W t) ((t : Int) + 1) (sumL W) W.length).toNat (gt (giv W t) (bst W (giv W t) ((t : Int) + 1) (sumL W) W.length).toNat + 1)
theorem giv_len (W : List Int) : ∀ t : Nat, (giv W t).length = W.length
  | 0 => by simp [giv]
  | t + 1 => by simp only [giv, List.length_set]; exact giv_len W t
theorem gt_zeros (n i : Nat) : gt (List.replicate n 0) i = 0 := by
  unfold gt; rw [List.getD_eq_getElem?_getD, List.getElem?_replicate]; split <;> rfl

structure GivOK (W : List Int) (t : Nat) : Prop where
  nn : ∀ i, 0 ≤ gt (giv W t) i
  sum : sumN W.length (gt (giv W t)) = t
  up : ∀ i, i < W.length → gt (giv W t) i * sumL W < t * gt W i + sumL W

theorem giv_next {W : List Int} (hs : 0 < sumL W) {t : Nat} (ok : GivOK W t) : ∃ b : Nat, b < W.length ∧ bst W (giv W t) ((t : Int) + 1) (sumL W) W.length = b := by
  have hbl := bst_lt W (giv W t) ((t : Int) + 1) (sumL W) W.length
  have hex : ∃ i, i < W.length ∧ gt (giv W t) i * sumL W < ((t : Int) + 1) * gt W i := by
    refine Classical.byContradiction fun hn => ?_
    have hall : ∀ i, i < W.length → ((t : Int) + 1) * gt W i ≤ sumL W * gt (giv W t) i := fun i hi => by
      rw [Int.mul_comm (sumL W)]
      exact Int.not_lt.1 fun q => hn ⟨i, hi, q⟩
    have := sumN_le hall
    rw [sumN_mul, sumN_mul, ok.sum, ← sumL_N, Int.add_mul, Int.one_mul, Int.mul_comm (sumL W)] at this
    omega
  obtain ⟨i, hi, he⟩ := hex
  have h0 := (bst_best (W := W) (H := giv W t) (t := (t : Int) + 1) (s := sumL W) ok.nn W.length).1 i hi he
  exact ⟨(bst W (giv W t) ((t : Int) + 1) (sumL W) W.length).toNat, by omega, by omega⟩
theorem giv_ok' {W : List Int} (hw : ∀ i, 0 ≤ gt W i) (hs : 0 < sumL W) (t : Nat) : GivOK W t := by
  induction t with
  | zero =>
    refine ⟨fun i => by rw [giv, gt_zeros]; omega, ?_, fun i hi => ?_⟩
    · rw [giv, sumN_congr (g := fun _ => 0) fun i _ => gt_zeros _ i]
      have : ∀ n, sumN n (fun _ => 0) = 0 := fun n => by induction n with
        | zero => rfl
        | succ n ih => simp [sumN, ih]
      rw [this]; rfl
    · rw [giv, gt_zeros]; simp; exact hs
  | succ t ih =>
    obtain ⟨b, hb, he⟩ := giv_next hs ih
    have hbl : b < (giv W t).length := by rw [giv_len]; exact hb
    have hg : ∀ i, gt (giv W (t + 1)) i = if i = b then gt (giv W t) b + 1 else gt (giv W t) i := fun i => by
      simp only [giv]; rw [he, Int.toNat_natCast]; exact gt_set hbl
    have hbest := (bst_best (W := W) (H := giv W t) (t := (t : Int) + 1) (s := sumL W) ih.nn W.length).2 (by rw [he]; omega)
    rw [he, Int.toNat_natCast] at hbest
    refine ⟨fun i => ?_, ?_, fun i hi => ?_⟩
    · rw [hg]; have := ih.nn i; have := ih.nn b; split <;> omega
    · rw [sumN_upd (f := gt (giv W t)) hb fun i _ hne => by rw [hg, if_neg hne], hg, if_pos rfl, ih.sum]; push_cast; omega
    · rw [hg]
      have h1 := ih.up i hi
      have h2 := hw i
      have e : (((t + 1 : Nat) : Int)) * gt W i = t * gt W i + gt W i := by push_cast; rw [Int.add_mul, Int.one_mul]
      split
      · rename_i hib
        subst hib
        have := hbest.1
        rw [Int.add_mul, Int.one_mul] at this ⊢
        rw [e]; omega
      · rw [e]; omega
theorem giv_ok {W : List Int} (hw : ∀ i, 0 ≤ gt W i) (hs : 0 < sumL W) (t : Nat) : GivOK W t ∧ ∃ b : Nat, b < W.length ∧ bst W (giv W t) ((t : Int) + 1) (sumL W) W.length = b :=
  ⟨giv_ok' hw hs t, giv_next hs (giv_ok' hw hs t)⟩

theorem giv_step {W : List Int} (hw : ∀ i, 0 ≤ gt W i) (hs : 0 < sumL W) (t : Nat) : ∃ b : Nat, b < W.length ∧ (∀ i, gt (giv W (t + 1)) i = if i = b then gt (giv W t) b + 1 else gt (giv W t) i) ∧
    gt (giv W t) b * sumL W < ((t : Int) + 1) * gt W b ∧ ∀ i, i < W.length → gt (giv W t) i * sumL W < ((t : Int) + 1) * gt W i → gt W i * (gt (giv W t) b + 1) ≤ gt W b * (gt (giv W t) i + 1) := by
  obtain ⟨ok, b, hb, he⟩ := giv_ok hw hs t
  have hbl : b < (giv W t).length := by rw [giv_len]; exact hb
  have hbest := (bst_best (W := W) (H := giv W t) (t := (t : Int) + 1) (s := sumL W) ok.nn W.length).2 (by rw [he]; omega)
  rw [he, Int.toNat_natCast] at hbest
  exact ⟨b, hb, fun i => by simp only [giv]; rw [he, Int.toNat_natCast]; exact gt_set hbl, hbest.1, hbest.2⟩
theorem giv_mono {W : List Int} (hw : ∀ i, 0 ≤ gt W i) (hs : 0 < sumL W) {t u : Nat} (h : t ≤ u) (i : Nat) : gt (giv W t) i ≤ gt (giv W u) i := by
  induction u with
  | zero => have : t = 0 := by omega
            subst this; exact Int.le_refl _
  | succ u ih =>
    by_cases e : t = u + 1
    · subst e; exact Int.le_refl _
    · have h1 := ih (by omega)
      obtain ⟨b, _, hg, _⟩ := giv_step hw hs u
      rw [hg]; split
      · rename_i q; subst q; omega
      · exact h1

/-- Nobody has less than the floor of its quota. -/
theorem giv_low {W : List Int} (hw : ∀ i, 0 ≤ gt W i) (hs : 0 < sumL W) (t : Nat) (i : Nat) (hi : i < W.length) : (t : Int) * gt W i / sumL W ≤ gt (giv W t) i := by
  have hsum := sumL_N W
  obtain ⟨s, hse⟩ : ∃ s, sumL W = s := ⟨_, rfl⟩
  have hst := fun u => giv_step hw hs u
  have hok := fun u => (giv_ok hw hs u).1
  rw [hse] at hs hsum
  simp only [hse] at hst
  let L : Nat → Int := fun i => (t : Int) * gt W i / s
  let D : Nat → Int := fun u => sumN W.length fun i => max 0 (L i - gt (giv W u) i)
  have hL : ∀ i, s * L i ≤ t * gt W i ∧ (t : Int) * gt W i < s * L i + s := fun i => by
    have h1 := Int.mul_ediv_add_emod ((t : Int) * gt W i) s
    have h2 := Int.emod_nonneg ((t : Int) * gt W i) (show s ≠ 0 by omega)
    have h3 := Int.emod_lt_of_pos ((t : Int) * gt W i) hs
    show s * (_ / s) ≤ _ ∧ _ < s * (_ / s) + s
    omega
  have key : ∀ u : Nat, u ≤ t → D u ≤ (t : Int) - u := by
    intro u
    induction u with
    | zero =>
      intro _
      have h1 : s * D 0 ≤ s * t := by
        show s * sumN _ _ ≤ _
        have e : s * (t : Int) = sumN W.length fun i => t * gt W i := by rw [sumN_mul, ← hsum, Int.mul_comm]
        rw [← sumN_mul, e]
        refine sumN_le fun i _ => ?_
        rw [giv, gt_zeros]
        have := (hL i).1
        have h0 : 0 ≤ (t : Int) * gt W i := Int.mul_nonneg (by omega) (hw i)
        rcases Int.lt_or_le (L i - 0) 0 with q | q
        · rw [Int.max_eq_left (by omega)]; omega
        · rw [Int.max_eq_right q, Int.sub_zero]; exact this
      have := Int.le_of_mul_le_mul_left h1 hs
      simpa using this
    | succ u ih =>
      intro hu
      have ihu := ih (by omega)
      obtain ⟨b, hb, hg, he, hbest⟩ := hst u
      by_cases hdef : gt (giv W u) b < L b
      · have : D (u + 1) = D u + (max 0 (L b - (gt (giv W u) b + 1)) - max 0 (L b - gt (giv W u) b)) := by
          show sumN _ _ = sumN _ _ + _
          rw [sumN_upd (f := fun i => max 0 (L i - gt (giv W u) i)) hb fun i _ hne => by rw [hg, if_neg hne]]
          rw [hg, if_pos rfl]
        rw [this]; push_cast; omega
      · have same : D (u + 1) = D u := by
          show sumN _ _ = sumN _ _
          refine sumN_congr fun i _ => ?_
          rw [hg]; split
          · rename_i q; subst q; omega
          · rfl
        rw [same]
        have hone : ∀ i, i < W.length → s * max 0 (L i - gt (giv W u) i) ≤ ((t : Int) - u - 1) * gt W i := by
          intro i hi
          have hwi := hw i
          have hnn : 0 ≤ ((t : Int) - u - 1) * gt W i := Int.mul_nonneg (by omega) hwi
          rcases Int.lt_or_le 0 (L i - gt (giv W u) i) with q | q
          · rw [Int.max_eq_right (by omega)]
            have hne : ¬ gt (giv W u) i * s < ((u : Int) + 1) * gt W i := by
              intro hel
              have h1 := hbest i hi hel
              -- a_i + 1 ≤ L_i, and L_b ≤ a_b
              have a0 := (hok u).nn i
              have b0 := (hok u).nn b
              have h2 : s * (gt (giv W u) i + 1) ≤ t * gt W i := Int.le_trans (Int.mul_le_mul_of_nonneg_left (by omega) (by omega)) (hL i).1
              have h3 : (t : Int) * gt W b < s * (gt (giv W u) b + 1) := by
                refine Int.lt_of_lt_of_le (hL b).2 ?_
                rw [Int.mul_add, Int.mul_one]
                have := Int.mul_le_mul_of_nonneg_left (show L b ≤ gt (giv W u) b by omega) (show 0 ≤ s by omega)
                omega
              obtain ⟨x, hxe⟩ : ∃ x, gt (giv W u) i + 1 = x := ⟨_, rfl⟩
              obtain ⟨y, hye⟩ : ∃ y, gt (giv W u) b + 1 = y := ⟨_, rfl⟩
              rw [hxe, hye] at h1
              rw [hxe] at h2
              rw [hye] at h3
              -- w_i * y ≤ w_b * x ; s x ≤ t w_i ; t w_b < s y
              have hx : 0 < x := by omega
              have hy : 0 < y := by omega
              have c1 : s * x * y ≤ t * gt W i * y := Int.mul_le_mul_of_nonneg_right h2 (by omega)
              have c2 : (t : Int) * (gt W i * y) ≤ t * (gt W b * x) := Int.mul_le_mul_of_nonneg_left h1 (by omega)
              have c3 : (t : Int) * gt W b * x < s * y * x := Int.mul_lt_mul_of_pos_right h3 hx
              have d1 : s * x * y = s * y * x := by rw [Int.mul_assoc, Int.mul_comm x y, ← Int.mul_assoc]
              rw [Int.mul_assoc] at c3
              rw [Int.mul_assoc (t : Int)] at c1
              omega
            have h1 := (hL i).1
            rw [Int.mul_sub, Int.mul_comm s (gt (giv W u) i), Int.sub_mul, Int.sub_mul, Int.one_mul]
            rw [Int.add_mul, Int.one_mul] at hne
            omega
          · rw [Int.max_eq_left q, Int.mul_zero]; exact hnn
        have hs2 := sumN_le hone
        rw [sumN_mul, sumN_mul, ← hsum, Int.mul_comm _ s] at hs2
        have := Int.le_of_mul_le_mul_left hs2 hs
        push_cast
        show sumN _ _ ≤ _
        omega
  have hD := key t (Nat.le_refl _)
  rw [hse]
  refine Int.not_lt.1 fun hlt => ?_
  have : (1 : Int) ≤ D t := by
    have h1 : ∀ j, j < W.length → (if j = i then 1 else 0 : Int) ≤ max 0 (L j - gt (giv W t) j) := fun j _ => by
      split
      · rename_i q; subst q
        have : gt (giv W t) j < L j := hlt
        omega
      · omega
    have h2 := sumN_le h1
    rw [sumN_upd (f := fun _ => 0) hi fun j _ hne => if_neg hne] at h2
    have : ∀ n, sumN n (fun _ => 0) = 0 := fun n => by induction n with
      | zero => rfl
      | succ n ih => simp [sumN, ih]
    rw [this, if_pos rfl] at h2
    show (1 : Int) ≤ sumN _ _
    omega
  omega

/-- What the parts have after n coins. -/
def given (W : List Int) (n : Int) : List Int := List.zipWith (fun a w => a + n / sumL W * w) (giv W (n % sumL W).toNat) W

end Go.Proofs.Ytlcmmaokfbjojaa
