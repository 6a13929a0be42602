/-
  Layer 39 in plain words: sharing by a level.
-/
import Derived.Test.YtjgkjenbgadacaaDoorFw4
set_option linter.all false
namespace Go.Proofs.YtjgkjenbgadacaaDoor

def sumL (l : List Int) : Int := l.foldr (· + ·) 0
@[simp] theorem sumL_nil : sumL [] = 0 := rfl
@[simp] theorem sumL_cons (a : Int) (l : List Int) : sumL (a :: l) = a + sumL l := rfl
theorem sumL_app : ∀ a b : List Int, sumL (a ++ b) = sumL a + sumL b
  | [], b => by simp
  | x :: a, b => by simp [sumL_app a b]; omega
theorem sumL_succ {l : List Int} {k : Nat} (h : k < l.length) : sumL (l.take (k + 1)) = sumL (l.take k) + l[k] := by
  rw [List.take_succ_eq_append_getElem h, sumL_app]; simp
theorem sumL_rev (l : List Int) : sumL l.reverse = sumL l := by
  induction l with
  | nil => rfl
  | cons a l ih => rw [List.reverse_cons, sumL_app, ih]; simp; omega

/-- Claims that are right. -/
def inC (c : Int) : Bool := decide (0 ≤ c) && decide (c ≤ 1099511627776)
def okC' (C : List Int) : Bool := C.all inC
def okH (C : List Int) (h : Int) : Bool := decide ((C.length : Int) ≤ 400) && decide (0 ≤ h) && decide (h ≤ 1125899906842624)
def rightC (C : List Int) (h : Int) : Bool := okC' C && okH C h
theorem okC_mem {C : List Int} (h : okC' C = true) {c : Int} (hc : c ∈ C) : 0 ≤ c ∧ c ≤ 1099511627776 := by
  have := List.all_eq_true.1 h c hc
  simpa [inC] using this
theorem okC_succ {C : List Int} {k : Nat} (h : k < C.length) (h1 : okC' (C.take k) = true) (h2 : inC C[k] = true) : okC' (C.take (k + 1)) = true := by
  unfold okC' at *
  rw [List.take_succ_eq_append_getElem h, List.all_append, h1]; simp [h2]
theorem okC_bad {C : List Int} {k : Nat} (h : k < C.length) (h2 : inC C[k] = false) : okC' C = false := List.all_eq_false.2 ⟨C[k], List.getElem_mem h, by simp [h2]⟩
theorem sum_bd : ∀ {C : List Int}, okC' C = true → 0 ≤ sumL C ∧ sumL C ≤ C.length * 1099511627776
  | [], _ => by simp
  | c :: C, h => by
    simp only [okC', List.all_cons, Bool.and_eq_true] at h
    have h1 : 0 ≤ c ∧ c ≤ 1099511627776 := by simpa [inC] using h.1
    have ih := sum_bd (C := C) h.2
    simp only [sumL_cons, List.length_cons]
    omega
theorem okC_take {C : List Int} (h : okC' C = true) (k : Nat) : okC' (C.take k) = true := List.all_eq_true.2 fun c hc => List.all_eq_true.1 h c (List.mem_of_mem_take hc)

/-- What claims get up to a level. -/
def fill (C : List Int) (l : Int) : Int := sumL (C.map fun c => min c l)
theorem fill_cons (c : Int) (C : List Int) (l : Int) : fill (c :: C) l = min c l + fill C l := rfl
theorem fill_succ {C : List Int} {k : Nat} (h : k < C.length) (l : Int) : fill (C.take (k + 1)) l = fill (C.take k) l + min C[k] l := by
  unfold fill
  rw [List.take_succ_eq_append_getElem h, List.map_append, sumL_app]; simp
theorem fill_mono {l m : Int} (h : l ≤ m) : ∀ C : List Int, fill C l ≤ fill C m
  | [] => Int.le_refl _
  | c :: C => by have := fill_mono h C; rw [fill_cons, fill_cons]; omega
theorem fill_bd {l : Int} (hl : 0 ≤ l ∧ l ≤ 1099511627776) : ∀ {C : List Int}, okC' C = true → 0 ≤ fill C l ∧ fill C l ≤ C.length * 1099511627776
  | [], _ => by simp [fill]
  | c :: C, h => by
    simp only [okC', List.all_cons, Bool.and_eq_true] at h
    have h1 : 0 ≤ c ∧ c ≤ 1099511627776 := by simpa [inC] using h.1
    have ih := fill_bd hl (C := C) h.2
    rw [fill_cons]; simp only [List.length_cons]
    omega
theorem fill_zero : ∀ {C : List Int}, okC' C = true → fill C 0 = 0
  | [], _ => rfl
  | c :: C, h => by
    simp only [okC', List.all_cons, Bool.and_eq_true] at h
    have h1 : 0 ≤ c ∧ c ≤ 1099511627776 := by simpa [inC] using h.1
    rw [fill_cons, fill_zero (C := C) h.2]; omega
theorem fill_top : ∀ {C : List Int} {l : Int}, (∀ c ∈ C, c ≤ l) → fill C l = sumL C
  | [], _, _ => rfl
  | c :: C, l, h => by
    have h1 := h c (by simp)
    rw [fill_cons, fill_top (C := C) (fun x hx => h x (by simp [hx])), sumL_cons]; omega
def cntG (C : List Int) (l : Int) : Nat := C.countP fun c => decide (l < c)
theorem fill_step : ∀ (C : List Int) (l : Int), fill C (l + 1) = fill C l + cntG C l
  | [], _ => rfl
  | c :: C, l => by
    have := fill_step C l
    rw [fill_cons, fill_cons, this]
    unfold cntG
    rw [List.countP_cons]
    by_cases h : l < c <;> simp [h] <;> omega
theorem fill_rev (C : List Int) (l : Int) : fill C.reverse l = fill C l := by unfold fill; rw [List.map_reverse, sumL_rev]

/-- What is given out: to the first 'left' of those that claim more than the level one coin more. -/
def shr (l : Int) : Int → List Int → List Int
  | _, [] => []
  | left, c :: C => if l < c ∧ 0 < left then (l + 1) :: shr l (left - 1) C else min c l :: shr l left C
/-- How many coins are left behind the first k. -/
def leftA (l : Int) : Int → List Int → Int
  | left, [] => left
  | left, c :: C => if l < c ∧ 0 < left then leftA l (left - 1) C else leftA l left C
theorem shr_len (l : Int) : ∀ (C : List Int) (left : Int), (shr l left C).length = C.length
  | [], _ => rfl
  | c :: C, left => by unfold shr; split <;> simp [shr_len l C]
theorem shr_app (l : Int) : ∀ (A B : List Int) (left : Int), shr l left (A ++ B) = shr l left A ++ shr l (leftA l left A) B
  | [], _, _ => rfl
  | c :: A, B, left => by
    rw [List.cons_append, shr, shr, leftA]
    split <;> simp [shr_app l A B]
theorem leftA_app (l : Int) : ∀ (A B : List Int) (left : Int), leftA l left (A ++ B) = leftA l (leftA l left A) B
  | [], _, _ => rfl
  | c :: A, B, left => by
    rw [List.cons_append, leftA, leftA]
    split <;> rw [leftA_app l A B]
def share1 (l left c : Int) : Int := if l < c ∧ 0 < left then l + 1 else min c l
theorem shr_succ {l left : Int} {C : List Int} {k : Nat} (h : k < C.length) : shr l left (C.take (k + 1)) = shr l left (C.take k) ++ [share1 l (leftA l left (C.take k)) C[k]] := by
  rw [List.take_succ_eq_append_getElem h, shr_app]
  congr 1
  unfold shr share1
  split <;> rfl
theorem leftA_succ {l left : Int} {C : List Int} {k : Nat} (h : k < C.length) : leftA l left (C.take (k + 1)) = leftA l left (C.take k) - (if l < C[k] ∧ 0 < leftA l left (C.take k) then 1 else 0) := by
  rw [List.take_succ_eq_append_getElem h, leftA_app]
  generalize leftA l left (C.take k) = q
  show (if l < C[k] ∧ 0 < q then leftA l (q - 1) [] else leftA l q []) = _
  split <;> simp [leftA]
theorem leftA_bd (l : Int) : ∀ (C : List Int) (left : Int), 0 ≤ left → 0 ≤ leftA l left C ∧ leftA l left C ≤ left
  | [], left, h => by simp [leftA, h]
  | c :: C, left, h => by
    unfold leftA
    split
    · rename_i h2; have := leftA_bd l C (left - 1) (by omega); omega
    · exact leftA_bd l C left h
theorem shr_sum (l : Int) : ∀ (C : List Int) (left : Int), 0 ≤ left → left ≤ cntG C l → sumL (shr l left C) = fill C l + left
  | [], left, h0, h1 => by simp [cntG] at h1; simp [shr, fill]; omega
  | c :: C, left, h0, h1 => by
    have e : (cntG (c :: C) l : Int) = cntG C l + if l < c then 1 else 0 := by
      unfold cntG; rw [List.countP_cons]; by_cases h : l < c <;> simp [h]
    rw [e] at h1
    unfold shr
    rw [fill_cons]
    split
    · rename_i h
      rw [if_pos h.1] at h1
      rw [sumL_cons, shr_sum l C (left - 1) (by omega) (by omega)]; omega
    · rename_i h
      by_cases hc : l < c
      · have h0' : left = 0 := by omega
        subst h0'
        rw [sumL_cons, shr_sum l C 0 (by omega) (by omega)]; omega
      · rw [if_neg hc] at h1
        rw [sumL_cons, shr_sum l C left h0 (by omega)]; omega
/-- The level. -/
structure isLv (C : List Int) (h l : Int) : Prop where
  low : 0 ≤ l
  le : fill C l ≤ h
  lt : h < fill C (l + 1)
theorem isLv_uniq {C : List Int} {h l m : Int} (a : isLv C h l) (b : isLv C h m) : l = m := by
  rcases Int.lt_trichotomy l m with hlm | hlm | hlm
  · have := fill_mono (show l + 1 ≤ m by omega) C; have := a.lt; have := b.le; omega
  · exact hlm
  · have := fill_mono (show m + 1 ≤ l by omega) C; have := b.lt; have := a.le; omega
theorem isLv_left {C : List Int} {h l : Int} (a : isLv C h l) : 0 ≤ h - fill C l ∧ h - fill C l < cntG C l := by
  have h1 := a.lt; have h2 := a.le
  rw [fill_step] at h1; omega
open Classical in
noncomputable def lvl (C : List Int) (h : Int) : Int := if e : ∃ l, isLv C h l then Classical.choose e else 0
theorem lvl_eq {C : List Int} {h l : Int} (a : isLv C h l) : lvl C h = l := by
  have e : ∃ l, isLv C h l := ⟨l, a⟩
  unfold lvl
  rw [dif_pos e]
  exact isLv_uniq (Classical.choose_spec e) a
noncomputable def share (C : List Int) (h : Int) : List Int := if sumL C ≤ h then C else shr (lvl C h) (h - fill C (lvl C h)) C

end Go.Proofs.YtjgkjenbgadacaaDoor
