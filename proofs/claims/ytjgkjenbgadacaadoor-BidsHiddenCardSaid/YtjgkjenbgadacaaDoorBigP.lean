/-
  Layer 4 in plain words: digits of base 2^20, and what is done to them.
-/
import Derived.Test.YtjgkjenbgadacaaDoorFw4
set_option linter.all false
namespace Go.Proofs.YtjgkjenbgadacaaDoor

/-- The number of digits, the lowest first. -/
def val : List Int → Int
  | [] => 0
  | d :: l => d + 1048576 * val l
def okD (l : List Int) : Prop := ∀ d ∈ l, 0 ≤ d ∧ d < 1048576
theorem okD_nil : okD [] := by simp [okD]
theorem okD_cons {d : Int} {l : List Int} : okD (d :: l) ↔ (0 ≤ d ∧ d < 1048576) ∧ okD l := by simp [okD]
theorem okD_at {l : List Int} (h : okD l) {i : Nat} (hi : i < l.length) : 0 ≤ l[i] ∧ l[i] < 1048576 := h _ (List.getElem_mem hi)
theorem okD_app {a b : List Int} : okD (a ++ b) ↔ okD a ∧ okD b := by
  unfold okD
  constructor
  · intro h; exact ⟨fun d hd => h d (List.mem_append_left _ hd), fun d hd => h d (List.mem_append_right _ hd)⟩
  · rintro ⟨h1, h2⟩ d hd; exact (List.mem_append.1 hd).elim (h1 d) (h2 d)
theorem okD_take {l : List Int} (h : okD l) (n : Nat) : okD (l.take n) := fun d hd => h d (List.mem_of_mem_take hd)
theorem okD_drop {l : List Int} (h : okD l) (n : Nat) : okD (l.drop n) := fun d hd => h d (List.mem_of_mem_drop hd)
theorem okD_zeros (n : Nat) : okD (List.replicate n 0) := fun d hd => by rw [List.eq_of_mem_replicate hd]; decide
theorem okD_set {l : List Int} (h : okD l) (i : Nat) {x : Int} (hx : 0 ≤ x ∧ x < 1048576) : okD (l.set i x) := fun d hd => by
  rcases List.mem_or_eq_of_mem_set hd with hd | rfl
  · exact h d hd
  · exact hx
theorem val_nonneg : ∀ {l : List Int}, okD l → 0 ≤ val l
  | [], _ => by simp [val]
  | d :: l, h => by
    rw [okD_cons] at h
    have := val_nonneg h.2
    simp only [val]; omega

/-- The digits of a number, the last one not 0. -/
def dgF : Nat → Int → List Int
  | 0, _ => []
  | k + 1, n => if n ≤ 0 then [] else (n % 1048576) :: dgF k (n / 1048576)
def dg (n : Int) : List Int := dgF n.toNat n
theorem dgF_fuel : ∀ (k : Nat) (n : Int), n ≤ k → dgF k n = dg n
  | 0, n, h => by
    have : n.toNat = 0 := by omega
    rw [dg, this]
  | k + 1, n, h => by
    by_cases hn : n ≤ 0
    · have : n.toNat = 0 := by omega
      rw [dg, this]; simp only [dgF, hn, if_true]
    · obtain ⟨m, hm⟩ : ∃ m, n.toNat = m + 1 := ⟨n.toNat - 1, by omega⟩
      rw [dg, hm]
      simp only [dgF, hn, if_false]
      rw [dgF_fuel k _ (by omega), dgF_fuel m _ (by omega)]
termination_by k n => k + n.toNat
theorem dg_neg {n : Int} (h : n ≤ 0) : dg n = [] := by
  have : n.toNat = 0 := by omega
  rw [dg, this]; rfl
theorem dg_zero : dg 0 = [] := rfl
theorem dg_pos {n : Int} (h : 0 < n) : dg n = (n % 1048576) :: dg (n / 1048576) := by
  obtain ⟨m, hm⟩ : ∃ m, n.toNat = m + 1 := ⟨n.toNat - 1, by omega⟩
  rw [dg, hm]
  have hn : ¬ n ≤ 0 := by omega
  simp only [dgF, hn, if_false]
  rw [dgF_fuel m _ (by omega)]
theorem dg_ind {motive : Int → Prop} (h0 : ∀ n, n ≤ 0 → motive n) (h1 : ∀ n, 0 < n → motive (n / 1048576) → motive n) (n : Int) : motive n := by
  have : ∀ (k : Nat) (n : Int), n ≤ k → motive n := by
    intro k
    induction k with
    | zero => intro n h; exact h0 n h
    | succ k ih =>
      intro n h
      by_cases hn : n ≤ 0
      · exact h0 n hn
      · exact h1 n (by omega) (ih _ (by omega))
  exact this n.toNat n (by omega)
theorem dg_eq_nil {n : Int} : dg n = [] ↔ n ≤ 0 := by
  constructor
  · intro h
    by_cases h0 : n ≤ 0
    · exact h0
    · rw [dg_pos (by omega)] at h; cases h
  · exact dg_neg
theorem val_dg {n : Int} (h : 0 ≤ n) : val (dg n) = n := by
  induction n using dg_ind with
  | h0 n hn => rw [dg_neg hn, val]; omega
  | h1 n hn ih => rw [dg_pos hn, val, ih (by omega)]; omega
theorem okD_dg (n : Int) : okD (dg n) := by
  induction n using dg_ind with
  | h0 n hn => rw [dg_neg hn]; exact okD_nil
  | h1 n hn ih => rw [dg_pos hn, okD_cons]; exact ⟨by omega, ih⟩
theorem val_pos {l : List Int} (ho : okD l) (hl : l ≠ []) (h : l.getLast hl ≠ 0) : 0 < val l := by
  induction l with
  | nil => exact (hl rfl).elim
  | cons d l ih =>
    rw [okD_cons] at ho
    cases l with
    | nil =>
      have : d ≠ 0 := by simpa using h
      simp only [val]; omega
    | cons e l =>
      have := ih ho.2 (by simp) (by simpa using h)
      rw [val]; omega
/-- THE ONE LIST of a number. -/
theorem dg_val {l : List Int} (ho : okD l) (h : ∀ hl : l ≠ [], l.getLast hl ≠ 0) : dg (val l) = l := by
  induction l with
  | nil => rfl
  | cons d l ih =>
    have hp := val_pos ho (by simp) (h (by simp))
    have ho' := ho
    rw [okD_cons] at ho
    have ih' := ih ho.2 (fun hl => by have := h (by simp); rwa [List.getLast_cons hl] at this)
    rw [dg_pos hp]
    simp only [val]
    rw [show (d + 1048576 * val l) % 1048576 = d by omega, show (d + 1048576 * val l) / 1048576 = val l by omega, ih']
theorem dg_last (n : Int) (hl : dg n ≠ []) : (dg n).getLast hl ≠ 0 := by
  induction n using dg_ind with
  | h0 n hn => exact (hl (dg_neg hn)).elim
  | h1 n hn ih =>
    simp only [dg_pos hn] at hl ⊢
    by_cases h2 : dg (n / 1048576) = []
    · have := dg_eq_nil.1 h2
      simp only [h2, List.getLast_singleton]; omega
    · rw [List.getLast_cons h2]; exact ih h2
theorem dg_inj {a b : Int} (ha : 0 ≤ a) (hb : 0 ≤ b) (h : dg a = dg b) : a = b := by rw [← val_dg ha, h, val_dg hb]
theorem dg_len_mono {a b : Int} (h : a ≤ b) : (dg a).length ≤ (dg b).length := by
  induction b using dg_ind generalizing a with
  | h0 n hn => rw [dg_neg (by omega), dg_neg hn]; exact Nat.le_refl _
  | h1 b hb ih =>
    by_cases ha : a ≤ 0
    · rw [dg_neg ha]; exact Nat.zero_le _
    · rw [dg_pos (by omega), dg_pos hb]
      have := ih (a := a / 1048576) (by omega)
      simp only [List.length_cons]; omega
theorem val_zeros (n : Nat) : val (List.replicate n 0) = 0 := by
  induction n with
  | zero => rfl
  | succ n ih => rw [List.replicate_succ, val, ih]; rfl
theorem val_lt {l : List Int} (h : okD l) : val l < 1048576 ^ l.length := by
  induction l with
  | nil => simp [val]
  | cons d l ih =>
    rw [okD_cons] at h
    have := ih h.2
    simp only [val, List.length_cons, Int.pow_succ]
    omega
theorem pow_pos' (k : Nat) : (0 : Int) < 1048576 ^ k := Int.pow_pos (by decide)
theorem dg_len_iff {n : Int} (k : Nat) : (dg n).length ≤ k ↔ n < 1048576 ^ k := by
  induction k generalizing n with
  | zero =>
    simp only [Nat.le_zero_eq, List.length_eq_zero_iff, Int.pow_zero, dg_eq_nil]; omega
  | succ k ih =>
    by_cases h : n ≤ 0
    · have := pow_pos' (k + 1)
      rw [dg_neg h]; simp; omega
    · rw [dg_pos (by omega), List.length_cons, Nat.add_le_add_iff_right, ih, Int.pow_succ]
      have := pow_pos' k
      omega

/-- Zeros at the end. -/
theorem val_cut {l : List Int} {n : Nat} (h : ∀ j (hj : j < l.length), n ≤ j → l[j] = 0) : val (l.take n) = val l := by
  induction l generalizing n with
  | nil => simp
  | cons d l ih =>
    cases n with
    | zero =>
      have h0 := h 0 (by simp) (Nat.le_refl _)
      have := ih (n := 0) (fun j hj _ => h (j + 1) (by simpa using hj) (Nat.zero_le _))
      simp only [List.take_zero, val, List.getElem_cons_zero] at this h0 ⊢
      omega
    | succ n =>
      have := ih (n := n) (fun j hj hn => by have := h (j + 1) (by simpa using hj) (by omega); simpa using this)
      simp only [List.take_succ_cons, val, this]
theorem trim_eq {l : List Int} (ho : okD l) {n : Nat} (hn : n ≤ l.length) (h : ∀ j (hj : j < l.length), n ≤ j → l[j] = 0) (h2 : ∀ hp : 0 < n, l[n - 1]'(by omega) ≠ 0) : dg (val l) = l.take n := by
  rw [← val_cut h]
  refine dg_val (okD_take ho n) fun hl => ?_
  have hnp : 0 < n := by
    by_cases h0 : n = 0
    · subst h0; simp at hl
    · omega
  rw [List.getLast_eq_getElem]
  have e : (l.take n).length - 1 = n - 1 := by rw [List.length_take]; omega
  simp only [e, List.getElem_take]
  exact h2 hnp

theorem dg_take {l : List Int} (ho : okD l) : dg (val l) = l.take (dg (val l)).length ∧ (dg (val l)).length ≤ l.length := by
  have key : ∀ k, k ≤ l.length → (∀ j (hj : j < l.length), k ≤ j → l[j] = 0) → dg (val l) = l.take (dg (val l)).length ∧ (dg (val l)).length ≤ l.length := by
    intro k
    induction k with
    | zero =>
      intro _ h
      have := trim_eq ho (Nat.zero_le _) h (fun h => by omega)
      rw [this]; simp
    | succ k ih =>
      intro hk h
      by_cases hz : l[k]'(by omega) = 0
      · refine ih (by omega) fun j hj hkj => ?_
        by_cases e : j = k
        · subst e; exact hz
        · exact h j hj (by omega)
      · have := trim_eq ho hk h (fun _ => by simpa using hz)
        rw [this, List.length_take, Nat.min_eq_left hk]
        exact ⟨rfl, hk⟩
  exact key l.length (Nat.le_refl _) (fun j hj h => by omega)
theorem take_set {l : List Int} {i : Nat} (h : i < l.length) (x : Int) : (l.set i x).take (i + 1) = l.take i ++ [x] := by
  rw [List.take_succ_eq_append_getElem (by simpa using h), List.take_set_of_le (Nat.le_refl _)]
  simp

/-- SUMS. -/
def addC : Int → List Int → List Int → List Int
  | c, [], _ => [c]
  | c, x :: xs, ys => ((c + x + ys.headD 0) % 1048576) :: addC ((c + x + ys.headD 0) / 1048576) xs ys.tail
theorem val_headD (ys : List Int) : val ys = ys.headD 0 + 1048576 * val ys.tail := by cases ys <;> rfl
theorem headD_lt {ys : List Int} (h : okD ys) : 0 ≤ ys.headD 0 ∧ ys.headD 0 < 1048576 := by
  cases ys with
  | nil => decide
  | cons y ys => exact (okD_cons.1 h).1
theorem okD_tail {ys : List Int} (h : okD ys) : okD ys.tail := fun d hd => h d (List.mem_of_mem_tail hd)
theorem addC_len : ∀ (c : Int) (a b : List Int), (addC c a b).length = a.length + 1
  | c, [], b => rfl
  | c, x :: xs, b => by simp [addC, addC_len]
theorem addC_val : ∀ (c : Int) (a b : List Int), b.length ≤ a.length → val (addC c a b) = c + val a + val b
  | c, [], b, h => by
    have : b = [] := by simpa using h
    subst this; simp [addC, val]
  | c, x :: xs, b, h => by
    have := addC_val ((c + x + b.headD 0) / 1048576) xs b.tail (by simp at h ⊢; omega)
    have hb := val_headD b
    simp only [addC, val, this]
    omega
theorem addC_ok : ∀ (c : Int) (a b : List Int), (0 ≤ c ∧ c ≤ 1) → okD a → okD b → okD (addC c a b)
  | c, [], b, hc, _, _ => by simp [addC, okD]; omega
  | c, x :: xs, b, hc, ha, hb => by
    rw [okD_cons] at ha
    have h1 := headD_lt hb
    simp only [addC, okD_cons]
    exact ⟨by omega, addC_ok _ _ _ (by omega) ha.2 (okD_tail hb)⟩

/-- DIFFERENCES. -/
def subC : Int → List Int → List Int → List Int
  | _, [], _ => []
  | c, x :: xs, ys => if c + ys.headD 0 ≤ x then (x - (c + ys.headD 0)) :: subC 0 xs ys.tail else (x + 1048576 - (c + ys.headD 0)) :: subC 1 xs ys.tail
theorem subC_len : ∀ (c : Int) (a b : List Int), (subC c a b).length = a.length
  | c, [], b => rfl
  | c, x :: xs, b => by simp only [subC]; split <;> simp [subC_len]
theorem subC_val : ∀ (c : Int) (a b : List Int), (0 ≤ c ∧ c ≤ 1) → okD a → okD b → c + val b ≤ val a → val (subC c a b) + c + val b = val a
  | c, [], b, hc, _, hb, h => by
    have := val_nonneg hb
    simp only [val, subC] at h ⊢; omega
  | c, x :: xs, b, hc, ha, hb, h => by
    rw [okD_cons] at ha
    have h1 := headD_lt hb
    have h2 := val_headD b
    simp only [val] at h
    simp only [subC]
    split
    · have := subC_val 0 xs b.tail (by omega) ha.2 (okD_tail hb) (by omega)
      simp only [val]; omega
    · have := subC_val 1 xs b.tail (by omega) ha.2 (okD_tail hb) (by omega)
      simp only [val]; omega
theorem subC_ok : ∀ (c : Int) (a b : List Int), (0 ≤ c ∧ c ≤ 1) → okD a → okD b → okD (subC c a b)
  | c, [], b, _, _, _ => okD_nil
  | c, x :: xs, b, hc, ha, hb => by
    rw [okD_cons] at ha
    have h1 := headD_lt hb
    simp only [subC]
    split
    · rw [okD_cons]; exact ⟨by omega, subC_ok 0 _ _ (by omega) ha.2 (okD_tail hb)⟩
    · rw [okD_cons]; exact ⟨by omega, subC_ok 1 _ _ (by omega) ha.2 (okD_tail hb)⟩

/-- PRODUCTS: a digit times digits, added to digits. -/
def amC (x : Int) : Int → List Int → List Int → List Int
  | _, _, [] => []
  | c, [], o :: os => (o + c) :: os
  | c, y :: ys, o :: os => ((o + x * y + c) % 1048576) :: amC x ((o + x * y + c) / 1048576) ys os
theorem amC_len (x : Int) : ∀ (c : Int) (ys os : List Int), (amC x c ys os).length = os.length
  | _, _, [] => by simp [amC]
  | c, [], o :: os => rfl
  | c, y :: ys, o :: os => by simp [amC, amC_len]
theorem amC_val (x : Int) : ∀ (c : Int) (ys os : List Int), ys.length < os.length → val (amC x c ys os) = val os + x * val ys + c
  | _, _, [], h => by simp at h
  | c, [], o :: os, _ => by simp only [amC, val]; omega
  | c, y :: ys, o :: os, h => by
    have := amC_val x ((o + x * y + c) / 1048576) ys os (by simpa using h)
    simp only [amC, val, this, Int.mul_add]
    rw [show x * (1048576 * val ys) = 1048576 * (x * val ys) by rw [Int.mul_left_comm]]
    generalize x * val ys = p
    generalize x * y = q
    omega
theorem mul_bd {x y : Int} (hx : 0 ≤ x ∧ x < 1048576) (hy : 0 ≤ y ∧ y < 1048576) : 0 ≤ x * y ∧ x * y ≤ 1099509530625 := by
  refine ⟨Int.mul_nonneg hx.1 hy.1, ?_⟩
  have h1 : x * y ≤ 1048575 * y := Int.mul_le_mul_of_nonneg_right (by omega) hy.1
  omega
theorem amC_ok (x : Int) (hx : 0 ≤ x ∧ x < 1048576) : ∀ (c : Int) (ys os : List Int), (0 ≤ c ∧ c < 1048576) → okD ys → okD os → (∀ j (hj : j < os.length), ys.length ≤ j → os[j] = 0) → okD (amC x c ys os) ∧ ∀ j (hj : j < (amC x c ys os).length), ys.length + 1 ≤ j → (amC x c ys os)[j] = 0
  | _, _, [], _, _, _, _ => ⟨by simp [amC, okD], fun j hj => by simp [amC] at hj⟩
  | c, [], o :: os, hc, _, ho, hz => by
    have h0 : o = 0 := hz 0 (by simp) (by simp)
    subst h0
    rw [okD_cons] at ho
    refine ⟨by simp only [amC, okD_cons]; exact ⟨by omega, ho.2⟩, fun j hj h => ?_⟩
    obtain ⟨k, rfl⟩ : ∃ k, j = k + 1 := ⟨j - 1, by simp at h; omega⟩
    simp only [amC, List.length_cons, Nat.add_lt_add_iff_right] at hj
    exact hz (k + 1) (by simpa using hj) (by simp)
  | c, y :: ys, o :: os, hc, hy, ho, hz => by
    rw [okD_cons] at hy ho
    have hb := mul_bd hx hy.1
    obtain ⟨h1, h2⟩ := amC_ok x hx ((o + x * y + c) / 1048576) ys os (by omega) hy.2 ho.2 (fun j hj h => by have := hz (j + 1) (by simpa using hj) (by simp; omega); simpa using this)
    refine ⟨by simp only [amC, okD_cons]; exact ⟨by omega, h1⟩, fun j hj h => ?_⟩
    obtain ⟨k, rfl⟩ : ∃ k, j = k + 1 := ⟨j - 1, by simp at h; omega⟩
    simp only [amC, List.length_cons, Nat.add_lt_add_iff_right] at hj
    simpa [amC] using h2 k hj (by simp at h; omega)
/-- The product of digits, added to digits. -/
def mrC (b : List Int) : List Int → List Int → List Int
  | [], acc => acc
  | x :: xs, acc => match amC x 0 b acc with
    | [] => []
    | t :: ts => t :: mrC b xs ts
theorem mrC_spec (b : List Int) (hb : okD b) : ∀ (a acc : List Int), okD a → okD acc → acc.length = a.length + b.length → (∀ j (hj : j < acc.length), b.length ≤ j → acc[j] = 0) →
    val (mrC b a acc) = val acc + val a * val b ∧ okD (mrC b a acc) ∧ (mrC b a acc).length = acc.length
  | [], acc, _, hacc, _, _ => by simp [mrC, val, hacc]
  | x :: xs, acc, ha, hacc, hl, hz => by
    rw [okD_cons] at ha
    simp only [List.length_cons] at hl
    obtain ⟨h1, h2⟩ := amC_ok x ha.1 0 b acc (by decide) hb hacc hz
    have h3 := amC_len x 0 b acc
    have h4 := amC_val x 0 b acc (by omega)
    simp only [mrC]
    cases ht : amC x 0 b acc with
    | nil => rw [ht] at h3; simp at h3; omega
    | cons t ts =>
      rw [ht] at h1 h2 h3 h4
      rw [okD_cons] at h1
      simp only [List.length_cons] at h3
      obtain ⟨q1, q2, q3⟩ := mrC_spec b hb xs ts ha.2 h1.2 (by omega) (fun j hj h => by have := h2 (j + 1) (by simpa using hj) (by omega); simpa using this)
      simp only []
      refine ⟨?_, okD_cons.2 ⟨h1.1, q2⟩, by simp only [List.length_cons]; omega⟩
      simp only [val] at h4 ⊢
      rw [q1, Int.mul_add, Int.add_mul, Int.mul_assoc]
      generalize val xs * val b = p at *
      generalize x * val b = q at *
      omega

/-- QUOTIENT AND REMAINDER, from the highest digit on. -/
def shC (d : Int) : List Int → List Int × Int
  | [] => ([], 0)
  | x :: xs => (((shC d xs).2 * 1048576 + x) / d :: (shC d xs).1, ((shC d xs).2 * 1048576 + x) % d)
theorem shC_len (d : Int) : ∀ l, (shC d l).1.length = l.length
  | [] => rfl
  | x :: xs => by simp [shC, shC_len]
theorem shC_val {d : Int} (hd : 0 < d) : ∀ l, val (shC d l).1 * d + (shC d l).2 = val l ∧ 0 ≤ (shC d l).2 ∧ (shC d l).2 < d
  | [] => by simp [shC, val, hd]
  | x :: xs => by
    obtain ⟨h1, h2⟩ := shC_val hd xs
    refine ⟨?_, Int.emod_nonneg _ (by omega), Int.emod_lt_of_pos _ hd⟩
    simp only [shC, val, ← h1, Int.add_mul]
    have := Int.mul_ediv_add_emod ((shC d xs).2 * 1048576 + x) d
    rw [Int.mul_comm] at this
    rw [Int.mul_add, Int.mul_assoc]
    generalize val (shC d xs).1 * d = p at *
    omega
theorem shC_ok {d : Int} (hd : 0 < d) : ∀ l, okD l → okD (shC d l).1
  | [], _ => okD_nil
  | x :: xs, h => by
    rw [okD_cons] at h
    obtain ⟨_, h2, h3⟩ := shC_val hd xs
    simp only [shC, okD_cons]
    refine ⟨⟨Int.ediv_nonneg (by omega) (by omega), ?_⟩, shC_ok hd xs h.2⟩
    rw [Int.ediv_lt_iff_lt_mul hd]
    omega
theorem shC_div {d : Int} (hd : 0 < d) (l : List Int) : val (shC d l).1 = val l / d ∧ (shC d l).2 = val l % d := by
  obtain ⟨h1, h2⟩ := shC_val hd l
  have h3 : val l = (shC d l).2 + val (shC d l).1 * d := by omega
  rw [h3, Int.add_mul_ediv_right _ _ (by omega), Int.add_mul_emod_self_right, Int.ediv_eq_zero_of_lt h2.1 h2.2, Int.emod_eq_of_lt h2.1 h2.2]
  exact ⟨by omega, rfl⟩

/-- COMPARING from the highest digit on. -/
theorem val_lt_of {a b : List Int} (ha : okD a) (hb : okD b) {i : Nat} (h1 : i < a.length) (h2 : i < b.length) (h : a[i] < b[i]) (hd : a.drop (i + 1) = b.drop (i + 1)) : val a < val b := by
  induction i generalizing a b with
  | zero =>
    match a, b with
    | x :: xs, y :: ys =>
      simp only [List.getElem_cons_zero, List.drop_succ_cons, List.drop_zero] at h hd
      subst hd
      simp only [val]; omega
  | succ i ih =>
    match a, b with
    | x :: xs, y :: ys =>
      rw [okD_cons] at ha hb
      have := ih ha.2 hb.2 (by simpa using h1) (by simpa using h2) (by simpa using h) (by simpa using hd)
      simp only [val]; omega

end Go.Proofs.YtjgkjenbgadacaaDoor
