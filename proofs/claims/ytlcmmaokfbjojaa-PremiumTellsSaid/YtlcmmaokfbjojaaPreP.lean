/-
  Layer 37 in plain words: claims, weights, rates.
-/
import Derived.Test.YtlcmmaokfbjojaaRatP
import Derived.Test.YtlcmmaokfbjojaaFracP
set_option linter.all false
namespace Go.Proofs.Ytlcmmaokfbjojaa

def inC7 (c : Int) : Bool := decide (0 ≤ c) && decide (c ≤ 1000)
theorem inC7_iff {c : Int} : inC7 c = true ↔ 0 ≤ c ∧ c ≤ 1000 := by simp [inC7]
def okB (C : List Int) (b : Int) : Bool := decide (1 ≤ (C.length : Int)) && decide ((C.length : Int) ≤ 60) && decide (0 ≤ b) && decide (b ≤ 1099511627776 / C.length)
def rightP (C : List Int) (b : Int) : Bool := okB C b && C.all inC7
def wts (C : List Int) : List Int := C.map fun c => c + 1
theorem wts_len (C : List Int) : (wts C).length = C.length := by simp [wts]
theorem wts_at {C : List Int} {i : Nat} (h : i < C.length) (h' : i < (wts C).length) : (wts C)[i] = C[i] + 1 := by simp [wts]
theorem wts_succ {C : List Int} {k : Nat} (h : k < C.length) : wts (C.take (k + 1)) = wts (C.take k) ++ [C[k] + 1] := by
  unfold wts; rw [List.take_succ_eq_append_getElem h, List.map_append]; rfl
theorem wts_bd : ∀ {C : List Int}, C.all inC7 = true → (C.length : Int) ≤ sumL (wts C) ∧ sumL (wts C) ≤ C.length * 1001
  | [], _ => by simp [wts]
  | c :: C, h => by
    simp only [List.all_cons, Bool.and_eq_true] at h
    have ih := wts_bd h.2
    have := inC7_iff.1 h.1
    simp only [wts, List.map_cons, sumL_cons, List.length_cons] at ih ⊢; push_cast; omega
structure RP (C : List Int) (b : Int) : Prop where
  len : 1 ≤ C.length ∧ C.length ≤ 60
  base : 0 ≤ b ∧ b * C.length ≤ 1099511627776
  all : C.all inC7 = true
theorem right_RP {C : List Int} {b : Int} (h : rightP C b = true) : RP C b := by
  simp only [rightP, okB, Bool.and_eq_true, decide_eq_true_eq] at h
  obtain ⟨⟨⟨⟨h1, h2⟩, h3⟩, h4⟩, h5⟩ := h
  refine ⟨⟨by omega, by omega⟩, ⟨h3, ?_⟩, h5⟩
  have := Int.mul_le_mul_of_nonneg_right h4 (show (0 : Int) ≤ C.length by omega)
  have := Int.ediv_mul_le 1099511627776 (show (C.length : Int) ≠ 0 by omega)
  omega
theorem RP.mem {C : List Int} {b : Int} (h : RP C b) {i : Nat} (hi : i < C.length) : 0 ≤ C[i] ∧ C[i] ≤ 1000 := inC7_iff.1 (List.all_eq_true.1 h.all _ (List.getElem_mem hi))
theorem RP.sum {C : List Int} {b : Int} (h : RP C b) : 1 ≤ sumL (wts C) ∧ sumL (wts C) ≤ 60060 := by
  have := wts_bd h.all
  have := h.len
  omega
theorem RP.coin {C : List Int} {b : Int} (h : RP C b) : 0 ≤ b * C.length ∧ b * C.length ≤ 1099511627776 := ⟨Int.mul_nonneg h.base.1 (by omega), h.base.2⟩
theorem RP.prod {C : List Int} {b : Int} (h : RP C b) {w : Int} (hw : 0 ≤ w ∧ w ≤ 1001) : 0 ≤ b * C.length * w ∧ b * C.length * w ≤ 1099511627776 * 1001 :=
  ⟨Int.mul_nonneg h.coin.1 hw.1, Int.mul_le_mul h.coin.2 hw.2 hw.1 (by omega)⟩

/-- The least and the greatest. -/
def mnL : List Int → Int
  | [] => 0
  | x :: l => l.foldl min x
def mxL : List Int → Int
  | [] => 0
  | x :: l => l.foldl max x
theorem mnL_succ {L : List Int} {k : Nat} (h : k < L.length) (h0 : 0 < k) : mnL (L.take (k + 1)) = min (mnL (L.take k)) L[k] := by
  cases L with
  | nil => simp at h
  | cons x l =>
    cases k with
    | zero => omega
    | succ k =>
      have hk : k < l.length := by simpa using h
      simp only [List.take_succ_cons, mnL, List.getElem_cons_succ]
      rw [List.take_succ_eq_append_getElem hk, List.foldl_append]; rfl
theorem mxL_succ {L : List Int} {k : Nat} (h : k < L.length) (h0 : 0 < k) : mxL (L.take (k + 1)) = max (mxL (L.take k)) L[k] := by
  cases L with
  | nil => simp at h
  | cons x l =>
    cases k with
    | zero => omega
    | succ k =>
      have hk : k < l.length := by simpa using h
      simp only [List.take_succ_cons, mxL, List.getElem_cons_succ]
      rw [List.take_succ_eq_append_getElem hk, List.foldl_append]; rfl
theorem foldl_min : ∀ (l : List Int) (x a : Int), a ≤ l.foldl min x ↔ a ≤ x ∧ ∀ y ∈ l, a ≤ y
  | [], x, a => by simp
  | y :: l, x, a => by
    rw [List.foldl_cons, foldl_min l]
    simp only [List.mem_cons, forall_eq_or_imp]
    exact ⟨fun ⟨h1, h2⟩ => ⟨by omega, by omega, h2⟩, fun ⟨h1, h2, h3⟩ => ⟨by omega, h3⟩⟩
theorem foldl_max : ∀ (l : List Int) (x a : Int), l.foldl max x ≤ a ↔ x ≤ a ∧ ∀ y ∈ l, y ≤ a
  | [], x, a => by simp
  | y :: l, x, a => by
    rw [List.foldl_cons, foldl_max l]
    simp only [List.mem_cons, forall_eq_or_imp]
    exact ⟨fun ⟨h1, h2⟩ => ⟨by omega, by omega, h2⟩, fun ⟨h1, h2, h3⟩ => ⟨by omega, h3⟩⟩
theorem all_mm {L : List Int} (h : 0 < L.length) : (decide (mnL L < 0) || decide (1000 < mxL L)) = !L.all inC7 := by
  cases L with
  | nil => simp at h
  | cons x l =>
    have h1 := foldl_min l x 0
    have h2 := foldl_max l x 1000
    have e1 : mnL (x :: l) = l.foldl min x := rfl
    have e2 : mxL (x :: l) = l.foldl max x := rfl
    rw [e1, e2]
    by_cases q : 0 ≤ l.foldl min x ∧ l.foldl max x ≤ 1000
    · have g1 := h1.1 q.1
      have g2 := h2.1 q.2
      have : (x :: l).all inC7 = true := List.all_eq_true.2 fun y hy => by
        rw [inC7_iff]
        rcases List.mem_cons.1 hy with r | r
        · subst r; exact ⟨g1.1, g2.1⟩
        · exact ⟨g1.2 y r, g2.2 y r⟩
      rw [this, decide_eq_false (by omega), decide_eq_false (by omega)]; rfl
    · have : (x :: l).all inC7 = false := by
        rw [Bool.eq_false_iff]
        intro r
        rw [List.all_eq_true] at r
        refine q ⟨h1.2 ⟨(inC7_iff.1 (r x (by simp))).1, fun y hy => (inC7_iff.1 (r y (by simp [hy]))).1⟩, h2.2 ⟨(inC7_iff.1 (r x (by simp))).2, fun y hy => (inC7_iff.1 (r y (by simp [hy]))).2⟩⟩
      rw [this]
      by_cases q1 : l.foldl min x < 0
      · rw [decide_eq_true q1]; rfl
      · rw [decide_eq_false q1, decide_eq_true (by omega)]; rfl

end Go.Proofs.Ytlcmmaokfbjojaa
